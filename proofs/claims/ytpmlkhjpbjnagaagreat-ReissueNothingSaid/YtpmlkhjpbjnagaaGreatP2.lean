/- part -/
import Derived.Test.YtpmlkhjpbjnagaaGreatP1
import Derived.Test.YtpmlkhjpbjnagaaGreatUL
import Derived.Test.YtpmlkhjpbjnagaaGreatA5
import Derived.Test.YtpmlkhjpbjnagaaGreatFC
import Derived.Test.YtpmlkhjpbjnagaaGreatUP
import Derived.Test.YtpmlkhjpbjnagaaGreatUD
import Derived.Test.YtpmlkhjpbjnagaaGreatFF
import Derived.Test.YtpmlkhjpbjnagaaGreatF8
import Derived.Test.YtpmlkhjpbjnagaaGreatF9
import Derived.Test.YtpmlkhjpbjnagaaGreatS2
import Derived.KernelRfl
noncomputable section
namespace Go.Proofs.YtpmlkhjpbjnagaaGreat
open Go.Ax
theorem C9{t:dT}{n:Int}(h:Ia t n=some true):t.2.2.2.2.1= -1:=by
 unfold Ia at h
 obtain⟨v,hv,h⟩:=bind_some h
 cases h
 split at hv
 ·split at hv
  ·split at hv
   ·rename_i e;exact gM e
   ·cases hv
  ·cases hv
 ·cases hv
theorem Da{t:dT}{n:Int}(h:H9 t n=some true):t.2.2.2.2.1= -1:=by
 unfold H9 at h
 obtain⟨v,hv,h⟩:=bind_some h
 cases h
 split at hv
 ·split at hv
  ·split at hv
   ·rename_i e;exact gM e
   ·cases hv
  ·cases hv
 ·cases hv
theorem Db{t:dT}{n:Int}(h:H8 t n=some true):t.2.2.2.2.1= -1:=by
 unfold H8 at h
 obtain⟨v,hv,h⟩:=bind_some h
 cases h
 split at hv
 ·split at hv
  ·split at hv
   ·rename_i e;exact gM e
   ·cases hv
  ·cases hv
 ·cases hv
theorem idB{x:Zo}{b:Bool}(h:(Option.bind x fun y=>some y)=some b):x=some b:=by
 cases x with
 |none=>cases h
 |some a=>exact h
theorem Hf{c:dJ}{t:dT}(h:ni c t=some true):t.2.2.2.2.1<(c.1.2.1.length:Int):=by
 have neg:t.2.2.2.2.1= -1→t.2.2.2.2.1<(c.1.2.1.length:Int):=fun e=>by omega
 by_cases e1:t.1=1
 ·exact(sV h e1).2
 ·unfold ni at h
  by_cases h1:t.1<1
  ·rw[cU h1] at h;cases h
  ·by_cases h2:(4:Int)<t.1
   ·rw[aC (by simpa using h1),cS h2] at h;cases h
   ·rw[aC (by simpa using h1),dz h2,aL,aC (by decide),aI] at h
    dsimp only at h
    rw[aA (by omega),aA (by omega),aC (by omega),aC e1] at h
    by_cases e2:t.1=2
    ·rw[aA e2] at h;exact neg (C9 (idB h))
    ·rw[aC e2] at h
     by_cases e3:t.1=3
     ·rw[aA e3] at h;exact neg (Da (idB h))
     ·rw[aC e3,aA (by omega)] at h;exact neg (Db (idB h))
theorem Dc(c:dJ)(hN:NB c.1)(r:pj):∃b y,QO c r=some (b,y)∧(b=true→y.2.2.2.2.1<(c.1.2.1.length:Int)):=by
 unfold QO
 rcases kU c r.2.2.1 r.2.2.2.1 with⟨hi,e⟩|⟨_,y,e⟩
 ·rw[e,aL]
  dsimp only
  rw[aC (by decide)]
  have hm:=hi.mem
  obtain⟨q,hq⟩:=pt c (nth ck (cL c.1 r.2.2.1) r.2.2.2.1).2.1 ((hN _ hm.1).2 _ hm.2)
  rw[hq,aL]
  cases q with
  |false=>exact⟨false,_,rfl,fun h=>(by cases h)⟩
  |
   true=>
   rw[aC (by decide)]
   have hu:=Hf hq
   by_cases h0:0≤(nth ck (cL c.1 r.2.2.1) r.2.2.2.1).2.1.2.2.2.2.1
   ·rw[cU h0,aA h0,aA hu]
    obtain⟨z,hz⟩:=pv c (nth aT c.1.2.1 (nth ck (cL c.1 r.2.2.1) r.2.2.2.1).2.1.2.2.2.2.1)
    rw[hz,aL]
    cases z with
    |false=>exact⟨false,_,rfl,fun h=>(by cases h)⟩
    |true=>exact⟨true,_,rfl,fun _=>hu⟩
   ·rw[aC (show¬decide ((0:Int)≤(nth ck (cL c.1 r.2.2.1) r.2.2.2.1).2.1.2.2.2.2.1)=true by simpa using h0)]
    exact⟨true,_,rfl,fun _=>hu⟩
 ·rw[e,aL]
  exact⟨false,_,rfl,fun h=>(by cases h)⟩
theorem Je(s:cM)(hN:NB s)(r:pj)(n:Int):∃p,LN s r n=some p:=by
 unfold LN
 obtain⟨b,y,e,hu⟩:=Dc (s,()) hN r
 rw[e,aL]
 dsimp only
 cases b with
 |false=>exact⟨_,rfl⟩
 |
  true=>
  rw[aC (by decide)]
  by_cases h1:n<0
  ·rw[cU h1];exact⟨_,rfl⟩
  ·rw[aC (show¬decide (n<(0:Int))=true by simpa using h1)]
   by_cases h2:(1048576:Int)<n
   ·rw[cS h2];exact⟨_,rfl⟩
   ·rw[dz h2,aL,aC (by decide),aI]
    dsimp only
    by_cases h0:0≤y.2.2.2.2.1
    ·rw[cU h0,aA h0,aA (hu rfl)];exact⟨_,rfl⟩
    ·rw[aC (show¬decide ((0:Int)≤y.2.2.2.2.1)=true by simpa using h0)];exact⟨_,rfl⟩
theorem mj(a b c:Int):∃r,Ie a b c=some r:=by
 unfold Ie
 repeat' (first|exact⟨_,rfl⟩|split)
def FV(s:cM)(PS:Zg)(x:mi)(a:Int):Prop:=x.2.2.2.1.length=(cL s a).length∧∀v∈x.2.2.2.1,v∈PS
structure LI(s:cM)(PS:Zg)(u:dD)(l:Zm):Prop where
 len:l.length≤u.2.2.1.length
 ok:∀x:Int,0≤x→x<(l.length:Int)→FV s PS (nth bN l x) (nth aO u.2.2.1 x).2.2.1
theorem LI.nil(s:cM)(PS:Zg)(u:dD):LI s PS u []:=⟨gL _,fun x h0 h1=>by rw[lO] at h1;omega⟩
theorem LI.push{s:cM}{PS:Zg}{u:dD}{l:Zm}(h:LI s PS u l){x:mi}(hl:l.length<u.2.2.1.length)(hx:FV s PS x (nth aO u.2.2.1 (l.length:Int)).2.2.1):LI s PS u (l++[x]):=by
 refine⟨by rw[ep,db];omega,fun j h0 h1=>?_⟩
 rw[ep,db] at h1
 have e:j=(j.toNat:Int):=by omega
 by_cases hj:j<(l.length:Int)
 ·have h2:=h.ok j h0 hj
  rw[e,dg (t:=bN) (by rw[ep];omega),List.getElem_append_left (by omega)]
  rw[e,dg (t:=bN) (by omega)] at h2
  exact h2
 ·have ej:j.toNat=l.length:=by omega
  have ej':j=(l.length:Int):=by omega
  rw[ej',dg (t:=bN) (by rw[ep,db];omega),List.getElem_append_right (dc _)]
  simp only[Nat.sub_self,List.getElem_singleton]
  exact hx
abbrev cR(s:cM)(u:dD):fP:=((s,()),(u,()))
theorem xw{s:cM}{PS:Zg}{u:dD}{l:Zm}(hL:LI s PS u l){t:gQ}{n:Int}(hn:n≤(l.length:Int))(h:Sz (cR s u) t n):
 0≤t.2.2.1∧t.2.2.1<(l.length:Int)∧0≤t.2.2.2.1∧t.2.2.2.1<((nth bN l t.2.2.1).2.2.2.1.length:Int)∧nth (.int .i64) (nth bN l t.2.2.1).2.2.2.1 t.2.2.2.1∈PS:=by
 have hv:t.2.2.1<(l.length:Int):=Int.lt_of_lt_of_le h.v1 hn
 obtain⟨h1,h2⟩:=hL.ok _ h.v0 hv
 have hb:=h.f.b1
 have hb:t.2.2.2.1<((nth bN l t.2.2.1).2.2.2.1.length:Int):=by rw[h1];exact hb
 exact⟨h.v0,hv,h.f.b0,hb,h2 _ (dO (t:=.int .i64) h.f.b0 hb)⟩
theorem M8{s:cM}{PS:Zg}{u:dD}{l:Zm}(hL:LI s PS u l)(hl:l.length=u.2.2.1.length){t:gQ}(ht:xl (cR s u) t):
 ∃v,C6 t l=some v∧(v∈PS∨t.2.2.1= -1∧v=t.2.2.2.2.1):=by
 unfold C6
 by_cases h:t.2.2.1= -1
 ·rw[cU h];exact⟨_,rfl,Or.inr ⟨h,rfl⟩⟩
 ·rcases ht with hi|hi
  ·obtain⟨a1,a2,a3,a4,a5⟩:=xw hL (by rw[hl];exact jU _) hi
   rw[aC (show¬decide (t.2.2.1=(-1:Int))=true by simpa using h),aA a1,aA a2,aA a3,aA a4]
   exact⟨_,rfl,Or.inl a5⟩
  ·exact absurd hi h
theorem Bi(day:Int){L:Zn}:∀(l:Zn)(s:fq×Bool),(∀f∈l,f∈L)→(s.2=true→s.1∈L)→((l.foldl (hH day) s).2=true→(l.foldl (hH day) s).1∈L)
 |[],s,_,hs=>hs
 |
  f::l,s,hl,hs=>by
  rw[List.foldl_cons]
  refine Bi day l _ (fun x hx=>hl x (d7 _ hx)) ?_
  unfold hH
  split
  ·exact fun _=>hl f (dE ..)
  ·exact hs
theorem M9{l:Zn}{k:cF}{day known:Int}(h:(jS l k day known).2=true):∃f∈l,f.2.1=(jS l k day known).1:=by
 have hm:=Bi day (L:=l) (l.filter (dF k known)) (zF,false) (fun x hx=>(List.mem_filter.1 hx).1) (fun h=>by cases h)
 have e:(l.filter (dF k known)).foldl (hH day) (zF,false)=iz k day known l (zF,false):=rfl
 rw[e] at hm
 unfold jS at h ⊢
 dsimp only at h ⊢
 split at h
 ·rename_i hc
  rw[aA hc]
  exact⟨_,hm hc.1,rfl⟩
 ·cases h
theorem Dd(l:Zn)(k:cF)(day known:Int)(hl:l.length≤aG):∃v b,uU l k day known=some (v,b)∧(b=true→∃f∈l,f.2.1=v):=by
 unfold uU
 rw[aA hl]
 exact⟨_,_,rfl,M9⟩
theorem ml(s:cM)(hr:s.2.2.2.1.length≤aG)(a:Int):∃b,Ja s a=some b∧(b=true→0≤a∧a<(s.2.2.1.length:Int)∧2≤(cL s a).length):=by
 have hB:=hB
 have no:∀y:Zo,y=some false→∃r,y=some r∧(r=true→0≤a∧a<(s.2.2.1.length:Int)∧2≤(cL s a).length):=fun y hy=>⟨false,hy,fun h=>(by cases h)⟩
 unfold Ja
 by_cases h0:a<0
 ·rw[cU h0];exact no _ rfl
 ·rw[aC (show¬decide (a<(0:Int))=true by simpa using h0)]
  by_cases h1:(s.2.2.1.length:Int)≤a
  ·rw[cU h1];exact no _ rfl
  ·rw[aC (show¬decide ((s.2.2.1.length:Int)≤a)=true by simpa using h1),aA (Int.not_lt.1 h0),aA (Int.not_le.1 h1)]
   have e:(nth bR s.2.2.1 a).2.2.2.2.1=cL s a:=rfl
   rw[e]
   by_cases h2:((cL s a).length:Int)<2
   ·rw[cS h2];exact no _ rfl
   ·rw[dz h2,aL,aC (by decide),aI]
    dsimp only
    have yes:∀y:Zo,(∃z,y=some z)→∃z,y=some z∧(z=true→0≤a∧a<(s.2.2.1.length:Int)∧2≤(cL s a).length):=fun y ⟨z,hz⟩=>⟨z,hz,fun _=>⟨Int.not_lt.1 h0,Int.not_le.1 h1,by omega⟩⟩
    apply yes
    suffices hW:W (aH (U:=Int×Zu) (yG (Int.toNat (List.length s.2.2.2.1:Int)+1) (a,s.2.2.2.1,(List.length s.2.2.2.1:Int),0,([]:Zu))) (fun x=>some (!(aQ (.int .i64) .bool x.1 x.2)))) (fun _=>True) by
     obtain⟨r,hr,_⟩:=hW
     exact⟨r,hr⟩
    refine bX.2 (W.ct (cP (L:=yG) rfl (CT (fun _=>True) fun _=>True) s.2.2.2.1.length (fun c(d:Zu)=>(a,s.2.2.2.1,(s.2.2.2.1.length:Int),(c:Int),d)) (fun c d=>d.length≤c) ?step ?stop _ 0 [] (by omega) (by omega) (dc _)) (fun d h=>⟨_,rfl,trivial⟩) fun r h=>trivial)
    case step=>
     intro rec c d hc hd kk
     dsimp only
     have hw2:=ld c (by omega)
     rw[cU (by omega),eN c,aA (show(c:Int)<(s.2.2.2.1.length:Int) by omega),aA (show d.length+1≤aG by omega),hw2]
     exact kk _ (cI (dt (kt:=.int .i64)) (by omega))
    case stop=>
     intro rec d hd
     dsimp only
     rw[gn (by omega)]
     exact⟨_,rfl,trivial⟩
theorem De{PS:Zg}(v:bL)(s:cM)(hN:NB s)(hl:v.2.1.length≤aG)(hPS:∀f∈v.2.1,f.2.1∈PS)(m a p i d k:Int)(rs:Zi)(hr:(rs.length+1)*40≤aG):
 ∃c b rs',nP m a p i d v k s rs=some (c,b,a,p,i,d,v,k,s,rs')∧rs'.length=rs.length+1∧(b=true→c∈PS):=by
 unfold nP M6
 rw[aL,aA (by rw[db];exact hr)]
 obtain⟨x,b,e,hb⟩:=Dd v.2.1 (a,(p,(aZ ((aZ ((16:Int)*i))+m),()))) d k hl
 rw[e,aL]
 dsimp only
 cases b with
 |false=>exact⟨_,false,_,rfl,by rw[ep,db],fun h=>(by cases h)⟩
 |
  true=>
  obtain⟨f,hf,rfl⟩:=hb rfl
  obtain⟨q,hq⟩:=sf s hN a m f.2.1
  rw[aA rfl,hq]
  exact⟨_,q,_,rfl,by rw[ep,db],fun _=>hPS f hf⟩
theorem Jf{PS:Zg}(v:bL)(hN:NB v.1.1)(hR:v.1.1.2.2.2.1.length≤aG)(hF:∀a,0≤a→a<(v.1.1.2.2.1.length:Int)→(cL v.1.1 a).length≤1000)(hl:v.2.1.length≤aG)(hPS:∀f∈v.2.1,f.2.1∈PS)(a p i d k:Int)(hp:p∈PS):
 W (Em v a p i d k) fun r=>r.2.2.length≤1000∧(r.1=true→FV v.1.1 PS r.2.1 a):=by
 have hB:=hB
 unfold Em
 obtain⟨b,e,hb⟩:=ml v.1.1 hR a
 rw[e,aL]
 have no:∀(z:mi),(([]:Zi).length≤1000∧((false:Bool)=true→FV v.1.1 PS z a)):=fun z=>⟨gL _,fun h=>(by cases h)⟩
 cases b with
 |false=>exact⟨_,rfl,no _⟩
 |
  true=>
  obtain⟨a0,a1,a2⟩:=hb rfl
  rw[aC (by decide)]
  have hs:∃z,Bf p i=some z:=by
   unfold Bf
   refine fu ?_ fun v=>⟨v,rfl⟩
   repeat' (first|exact⟨_,rfl⟩|split)
  obtain⟨z,hz⟩:=hs
  rw[hz,aL]
  cases z with
  |false=>exact⟨_,rfl,no _⟩
  |
   true=>
   rw[aC (by decide)]
   by_cases d0:d<0
   ·rw[cU d0];exact⟨_,rfl,no _⟩
   ·rw[aC (show¬decide (d<(0:Int))=true by simpa using d0)]
    by_cases d1:(1024:Int)≤d
    ·rw[cS d1];exact⟨_,rfl,no _⟩
    ·rw[dz d1,aL,aC (by decide),aI]
     dsimp only
     have hFa:=hF a a0 a1
     have e:(nth bR v.1.1.2.2.1 a).2.2.2.2.1=cL v.1.1 a:=rfl
     refine bX.2 (W.ct (cP (L:=El) rfl (CT (fun r=>∃t s,r=(a,p,i,0,0,0,t,s)∧s.length≤1000∧t.length=(cL v.1.1 a).length∧∀x∈t,x∈PS) fun r=>r.1=false∧r.2.2.length≤1000) (cL v.1.1 a).length (fun c(u:Zg×Zi)=>((c:Int),v,a,p,i,d,k,0,0,0,v.1.1,u.1,u.2)) (fun c u=>u.1.length=c∧u.2.length≤c∧∀x∈u.1,x∈PS) ?step ?stop eP 1 ([p],[]) (by show _<18446744073709551616;omega) (by omega) ⟨rfl,gL _,fun x hx=>(by rw[List.mem_singleton.1 hx];exact hp)⟩) (fun r h=>?_) fun r h=>?_)
     case step=>
      rintro rec c ⟨t,s⟩ hc ⟨ht,hs,hP⟩ kk
      dsimp only at ht hs hP ⊢
      have hw2:=ld c (by omega)
      rw[e,aA a0,aA a1,cU (by omega)]
      obtain⟨x,b,s',e2,hs',hx⟩:=De v v.1.1 hN hl hPS (c:Int) a p i d k s (by omega)
      rw[e2,aL]
      dsimp only
      cases b with
      |false=>exact⟨_,rfl,rfl,by show s'.length≤1000;omega⟩
      |
       true=>
       rw[aC (by decide),aA (show(t.length+List.length [x])*8≤aG by rw[db];omega),hw2]
       refine kk (t++[x],s') ⟨by rw[ep,db,ht],by show s'.length≤c+1;omega,fun y hy=>?_⟩
       rcases List.mem_append.1 hy with h|h
       ·exact hP y h
       ·rw[List.mem_singleton.1 h];exact hx rfl
     case stop=>
      rintro rec ⟨t,s⟩ ⟨ht,hs,hP⟩
      dsimp only at ht hs hP ⊢
      rw[e,aA a0,aA a1,gn (by omega)]
      exact⟨_,rfl,t,s,rfl,by omega,ht,hP⟩
     ·obtain⟨t,s,rfl,h1,h2,h3⟩:=h
      exact⟨_,rfl,h1,fun _=>⟨h2,h3⟩⟩
     ·exact⟨h.2,fun h'=>by rw[h.1] at h';cases h'⟩
theorem qU:∀(rs:Zi)(se:Ze)(acc:Zi),se.length+rs.length≤aG→(acc.length+rs.length)*40≤aG→∃s' a',ja rs se acc=some (s',a')∧s'.length≤se.length+rs.length∧a'.length≤acc.length+rs.length
 |[],se,acc,_,_=>⟨se,acc,rfl,dc _,dc _⟩
 |
  r::rs,se,acc,h1,h2=>by
  rw[d9] at h1 h2 ⊢
  unfold ja
  split
  ·obtain⟨s',a',e,q1,q2⟩:=qU rs se acc (by omega) (by omega)
   exact⟨s',a',e,by omega,by omega⟩
  ·have hm:(bC aM r true se).length≤se.length+1:=dt
   rw[aA (by omega),aA (by omega)]
   obtain⟨s',a',e,q1,q2⟩:=qU rs (bC aM r true se) (acc++[r]) (by omega) (by rw[ep,db];omega)
   rw[ep,db] at q2
   exact⟨s',a',e,by omega,by omega⟩
abbrev Pl:=cF
abbrev FM:=Zf
abbrev SM:=Ze
abbrev DM:=Zd
def IX(PS:Zg)(ix:Ix):Prop:=∀key,(aQ aF (.slice 64 aW) key (bE ix)).length≤1000000∧∀f∈aQ aF (.slice 64 aW) key (bE ix),f.2.1∈PS
structure WX(w:bL)(lo:Zg)(PS:Zg)(U:List Pl)(ix:Ix):Prop where
 cg:CG w.1.1 lo
 zero:(0:Int)∈PS
 consts:∀u∈w.1.1.2.2.2.1,∀t∈u.2.2.2.2.1,t.2.2.1.2.2.2.2.1∈PS
 pl:∀a p i:Int,0≤a→a<(w.1.1.2.2.1.length:Int)→p∈PS→0≤i→i<4→(a,(p,(i,())))∈U
 len:U.length≤1000000
 fl:∀a,0≤a→a<(w.1.1.2.2.1.length:Int)→(cL w.1.1 a).length≤1000
 ix:IX PS ix
structure WY(w:bL)(PS:Zg)(U:List Pl)(ix:Ix):Prop where
 sw:SW w.1.1
 len:U.length≤1000000
 fl:∀a,0≤a→a<(w.1.1.2.2.1.length:Int)→(cL w.1.1 a).length≤1000
 ix:IX PS ix
theorem WX.y{w:bL}{lo PS:Zg}{U:List Pl}{ix:Ix}(h:WX w lo PS U ix):WY w PS U ix:=⟨h.cg.sw,h.len,h.fl,h.ix⟩
structure FI(s:cM)(PS:Zg)(U:List Pl)(fo:FM)(se:SM)(rs:Zi):Prop where
 n6:(fo.map (·.1)).Nodup
 sub:∀e∈fo,e.1∈U
 ok:∀e∈fo,e.2.2.2.2.1=true→FV s PS e.2.1 e.1.1
 se:se.length≤1000*fo.length
 rs:rs.length≤1000*fo.length
theorem xx{α:Type}:∀(l L:List α),l.Nodup→(∀x∈l,x∈L)→l.length≤L.length:=by
 classical
 intro l
 induction l with
 |nil=>intro L _ _;exact gL _
 |
  cons a l ih=>
  intro L hn hs
  have ha:=hs a (dE ..)
  have h:=ih (L.erase a) (List.nodup_cons.1 hn).2 fun x hx=>(List.mem_erase_of_ne (fun e:x=a=>(List.nodup_cons.1 hn).1 (e▸hx))).2 (hs x (d7 _ hx))
  rw[List.length_erase_of_mem ha] at h
  have hp:=List.length_pos_of_mem ha
  rw[d9]
  omega
theorem FI.len{s:cM}{PS:Zg}{U:List Pl}{fo:FM}{se:SM}{rs:Zi}(h:FI s PS U fo se rs):fo.length≤U.length:=by
 have:=xx _ U h.n6 fun x hx=>by
  obtain⟨e,he,rfl⟩:=List.mem_map.1 hx
  exact h.sub e he
 rwa [im] at this
theorem Fj{α:Type}{kt:Ty}{k:kt.den}{y:α}:∀{es:List (kt.den×α)},es.length≤(bC kt k y es).length
 |[]=>gL _
 |
  e::es=>by
  unfold bC
  split
  ·exact dc _
  ·rw[d9,d9];exact Nat.succ_le_succ Fj
theorem FI.put{s:cM}{PS:Zg}{U:List Pl}{fo:FM}{se:SM}{rs:Zi}(h:FI s PS U fo se rs){p:Pl}(hp:p∈U){x:MN}(hx:x.2.2.2.1=true→FV s PS x.1 p.1){se':SM}{rs':Zi}
 (h1:se'.length≤1000*(bC aF p x fo).length) (h2:rs'.length≤1000*(bC aF p x fo).length):FI s PS U (bC aF p x fo) se' rs' where
 n6:=dw (kt:=aF) rfl h.n6
 sub e he:=by
  rcases fw (kt:=aF) he with rfl|he
  ·exact hp
  ·exact h.sub e he
 ok e he:=by
  rcases fw (kt:=aF) he with rfl|he
  ·exact hx
  ·exact h.ok e he
 se:=h1
 rs:=h2
theorem FI.nil(s:cM)(PS:Zg)(U:List Pl):FI s PS U [] [] []:=
 ⟨List.nodup_nil,fun e he=>(by cases he),fun e he=>(by cases he),dc _,dc _⟩
theorem Bj{w:bL}{PS:Zg}{U:List Pl}{ix:Ix}(hw:WY w PS U ix)(p:Pl)(d k:Int)(b:Bool)(m:DM)(z:Unit)(fo:FM)(se:SM)(rs:Zi):
 ∃L:Zn,gF p w ix d k b m z fo se rs=some (w,ix,d,k,b,m,z,fo,se,rs,(w.1,(L,())))∧L.length≤1000*1000000∧∀f∈L,f.2.1∈PS:=by
 have hB:=hB
 suffices hW:W (gF p w ix d k b m z fo se rs) fun r=>∃L:Zn,r=(w,ix,d,k,b,m,z,fo,se,rs,(w.1,(L,())))∧L.length≤1000*1000000∧∀f∈L,f.2.1∈PS by
  obtain⟨r,e,L,rfl,h⟩:=hW
  exact⟨L,e,h⟩
 have nil:∀f∈([]:Zn),f.2.1∈PS:=fun f hf=>(by cases hf)
 unfold gF
 by_cases h0:0≤p.1
 ·rw[cU h0]
  by_cases h1:p.1<(w.1.1.2.2.1.length:Int)
  ·rw[cS h1,aL,aA rfl,aA h0,aA h1]
   have e:(nth bR w.1.1.2.2.1 p.1).2.2.2.2.1=cL w.1.1 p.1:=rfl
   have hF:=hw.fl _ h0 h1
   rw[e]
   refine bX.2 (W.ct (cP (L:=kr) rfl (CT (fun r=>∃L:Zn,r=(w,ix,d,k,b,m,z,fo,se,rs,w.1,L)∧L.length≤1000*1000000∧∀f∈L,f.2.1∈PS) fun _=>False) (cL w.1.1 p.1).length (fun c(L:Zn)=>(((cL w.1.1 p.1).length:Int),(c:Int),w,ix,d,k,b,m,z,fo,se,rs,p,w.1,L)) (fun c L=>L.length≤c*1000000∧∀f∈L,f.2.1∈PS) ?step ?stop _ 0 [] (by omega) (by omega) ⟨gL _,nil⟩) (fun r h=>?_) fun r h=>?_)
   case step=>
    rintro rec c L hc ⟨hL,hP⟩ kk
    dsimp only
    have hw2:=ld c (by omega)
    obtain⟨q1,q2⟩:=hw.ix (p.1,(p.2.1,(aZ ((aZ ((16:Int)*p.2.2.1))+(c:Int)),())))
    rw[cU (by omega),aA (by omega),hw2]
    refine kk _ ⟨by rw[ep];omega,fun f hf=>?_⟩
    rcases List.mem_append.1 hf with h|h
    ·exact hP f h
    ·exact q2 f h
   case stop=>
    rintro rec L ⟨hL,hP⟩
    dsimp only
    rw[gn (by omega)]
    exact⟨_,rfl,L,rfl,cI hL (gK _ hF),hP⟩
   ·obtain⟨L,rfl,h⟩:=h
    exact⟨_,rfl,L,rfl,h⟩
   ·exact h.elim
  ·rw[dz h1];exact⟨_,rfl,[],rfl,gL _,nil⟩
 ·rw[aC (show¬decide ((0:Int)≤p.1)=true by simpa using h0)];exact⟨_,rfl,[],rfl,gL _,nil⟩
def PL(w:bL)(PS:Zg)(U:List Pl)(ix:Ix)(d k:Int)(b:Bool)(m:DM)(z:Unit)(p:Pl)(r:bL×Ix×Int×Int×Bool×DM×Unit×FM×SM×MN×List kS):Prop:=
 ∃fo se x rs,r=(w,ix,d,k,b,m,z,fo,se,x,rs)∧FI w.1.1 PS U fo se rs∧(x.2.2.2.1=true→FV w.1.1 PS x.1 p.1)
theorem RU{w:bL}{PS:Zg}{U:List Pl}{ix:Ix}(hw:WY w PS U ix)(p:Pl)(d k:Int)(b:Bool)(m:DM)(z:Unit){fo:FM}{se:SM}{rs:Zi}(h:FI w.1.1 PS U fo se rs)(hp:cC aF p fo=false)(hU:p∈U)(hP:p.2.1∈PS):
 ∃(L:Zn)(y:Bool)(x:mi)(n:Zi)(se':SM)(rs':Zi),gF p w ix d k b m z fo se rs=some (w,ix,d,k,b,m,z,fo,se,rs,(w.1,(L,())))∧Em (w.1,(L,())) p.1 p.2.1 p.2.2.1 d k=some (y,x,n)∧
  ij rs n w ix d k b m z fo se=some (n,w,ix,d,k,b,m,z,fo,se',rs')∧fo.length+1≤aG∧
  PL w PS U ix d k b m z p (w,ix,d,k,b,m,z,bC aF p (x,((0:Int),(([]:Zm),(y,())))) fo,se',(x,((0:Int),(([]:Zm),(y,())))),rs'):=by
 have hB:=hB
 obtain⟨L,e1,hL,hPS⟩:=Bj hw p d k b m z fo se rs
 obtain⟨⟨y,x,n⟩,e2,hn,hx⟩:=Jf (PS:=PS) (w.1,(L,())) hw.sw.nb hw.sw.rules hw.fl (by show L.length≤aG;omega) hPS p.1 p.2.1 p.2.2.1 d k hP
 dsimp only at hn hx
 have hlen:=h.len
 have h1:=hw.len
 have h2:=h.se
 have h3:=h.rs
 obtain⟨se',rs',e3,q1,q2⟩:=qU n se rs (by omega) (by omega)
 refine⟨L,y,x,n,se',rs',e1,e2,?_,by omega,?_⟩
 ·unfold ij
  rw[aA (by omega),e3]
  rfl
 ·have hnew:(bC aF p (x,((0:Int),(([]:Zm),(y,())))) fo).length=fo.length+1:=by
   rw[mQ (kt:=aF) rfl (fun hm=>by rw[(fU (kt:=aF) rfl).2 hm] at hp;cases hp),ep,db]
  exact⟨_,_,_,_,rfl,h.put hU hx (by omega) (by omega),hx⟩
abbrev Q0:=Pl×bL×Ix×Int×Int×Bool×DM×Unit×FM×SM×List kS×Unit→Option (bL×Ix×Int×Int×Bool×DM×Unit×FM×SM×MN×List kS)
abbrev Q1:=dD×Int×List mi×bL×Ix×Int×Int×Bool×DM×Unit×FM×SM×List kS×Unit→Option (Bool×dD×Int×bL×Ix×Int×Int×Bool×DM×Unit×FM×SM×List mi×List kS)
theorem Fk{s:cM}{PS:Zg}{u:dD}{l:Zm}(hN:NB s)(hL:LI s PS u l)(hl:l.length=u.2.2.1.length){t:gQ}(ht:xl (cR s u) t)(h1:t.2.2.1≠-1):
 ∃n,∀(w:bL),w.1.1=s→∀ix d k b m z fo se rs,qM t u w ix d k b m z l fo se rs=some (n,u,w,ix,d,k,b,m,z,l,fo,se,rs):=by
 rcases ht with hi|hi
 ·obtain⟨v,hv,_⟩:=M8 hL hl (Or.inl hi)
  obtain⟨p,hp⟩:=Je s hN ([],([],((nth aO u.2.2.1 t.2.2.1).2.2.1,(t.2.2.2.1,())))) v
  refine⟨p.1,fun w hw ix d k b m z fo se rs=>?_⟩
  have hp':LN w.1.1 ([],([],((nth aO u.2.2.1 t.2.2.1).2.2.1,(t.2.2.2.1,())))) v=some p:=by rw[hw];exact hp
  unfold qM
  rw[aA hi.v0,aA (show t.2.2.1<(u.2.2.1.length:Int) from hi.v1),hv,aL,hp']
  rfl
 ·exact absurd hi h1
theorem S4{s:cM}{PS:Zg}{u:dD}{l:Zm}(hN:NB s)(hw:u.2.2.2.1.length≤aG)(hR:RK (cR s u))(hL:LI s PS u l)(hl:l.length=u.2.2.1.length):
 ∃y,∀(w:bL),w.1.1=s→∀ix d k b m z fo se rs,nX u w ix d k b m z l fo se rs=some (y,w,ix,d,k,b,m,z,l,fo,se,rs):=by
 have hB:=hB
 have key:∀n i:Nat,u.2.2.2.1.length -i<n→i≤u.2.2.2.1.length→∃y:Bool,∀(w:bL),w.1.1=s→∀ix d k b m z fo se rs,
  gI n (u.2.2.2.1,(u.2.2.2.1.length:Int),(i:Int),w,ix,d,k,b,m,z,l,fo,se,rs,u)=some (if y=true then .bA (w,ix,d,k,b,m,z,l,fo,se,rs) else .ret (false,w,ix,d,k,b,m,z,l,fo,se,rs)):=by
  intro n
  induction n with
  |zero=>intro i h;omega
  |
   succ n ih=>
   intro i hn hi
   by_cases h:i<u.2.2.2.1.length
   ·have hm:xl (cR s u) (nth aU u.2.2.2.1 (i:Int)).2.1∧xl (cR s u) (nth aU u.2.2.2.1 (i:Int)).2.2.1:=hR.wh _ (dO (t:=aU) (l:=u.2.2.2.1) (dx i) (show(i:Int)<(u.2.2.2.1.length:Int) by omega))
    obtain⟨y,hy⟩:=ih (i+1) (by omega) (by omega)
    have hw2:=ld i (by omega)
    have hi1:(i:Int)<(u.2.2.2.1.length:Int):=by omega
    generalize ha:nth aU u.2.2.2.1 (i:Int)=a at hm
    obtain⟨v1,e1,_⟩:=M8 hL hl hm.1
    obtain⟨v2,e2,_⟩:=M8 hL hl hm.2
    have fin:∀(p q:Int)(c:Bool),Ie a.1 p q=some c→∀(w:bL) ix d k b m z fo se rs(rec:(ZE)×Int×Int×bL×Ix×Int×Int×Bool×DM×Unit×(Zm)×FM×SM×(Zi)×dD→Option (cH (bL×Ix×Int×Int×Bool×DM×Unit×(Zm)×FM×SM×(Zi)) (Bool×bL×Ix×Int×Int×Bool×DM×Unit×(Zm)×FM×SM×(Zi)))),
     rec (u.2.2.2.1,(u.2.2.2.1.length:Int),((i+1:Nat):Int),w,ix,d,k,b,m,z,l,fo,se,rs,u)=some (if y=true then .bA (w,ix,d,k,b,m,z,l,fo,se,rs) else .ret (false,w,ix,d,k,b,m,z,l,fo,se,rs))→
     (Option.bind (Ie a.1 p q) fun y10=>if(!y10)=true then(cw (some (false,w,ix,d,k,b,m,z,l,fo,se,rs))) else(rec (u.2.2.2.1,(u.2.2.2.1.length:Int),aZ ((i:Int)+(1:Int)),w,ix,d,k,b,m,z,l,fo,se,rs,u)))=some (if(c&&y)=true then .bA (w,ix,d,k,b,m,z,l,fo,se,rs) else .ret (false,w,ix,d,k,b,m,z,l,fo,se,rs)):=by
     intro p q c hc w ix d k b m z fo se rs rec hr
     rw[hc,aL]
     cases c with
     |false=>rfl
     |true=>rw[aC (by decide),hw2,hr];rfl
    have hi0:=dx i
    by_cases n1:a.2.1.2.2.1= -1
    ·obtain⟨c,hc⟩:=mj a.1 v1 v2
     refine⟨c&&y,fun w hws ix d k b m z fo se rs=>?_⟩
     have hyw:=hy w hws ix d k b m z fo se rs
     unfold gI at hyw ⊢
     rw[aN]
     generalize aK _ n=rec at hyw ⊢
     dsimp only
     rw[cU hi1,aA hi0,aA hi1,ha,e1,aL,e2,aL,aC (show¬(!decide (a.2.1.2.2.1=(-1:Int)))=true by simpa using n1)]
     exact fin v1 v2 c hc w ix d k b m z fo se rs rec hyw
    ·by_cases n2:a.2.2.1.2.2.1= -1
     ·obtain⟨c,hc⟩:=mj a.1 v1 v2
      refine⟨c&&y,fun w hws ix d k b m z fo se rs=>?_⟩
      have hyw:=hy w hws ix d k b m z fo se rs
      unfold gI at hyw ⊢
      rw[aN]
      generalize aK _ n=rec at hyw ⊢
      dsimp only
      rw[cU hi1,aA hi0,aA hi1,ha,e1,aL,e2,aL,aA (show(!decide (a.2.1.2.2.1=(-1:Int)))=true by simpa using n1),aL,aC (show¬(!decide (a.2.2.1.2.2.1=(-1:Int)))=true by simpa using n2)]
      exact fin v1 v2 c hc w ix d k b m z fo se rs rec hyw
     ·obtain⟨p,hp⟩:=Fk hN hL hl hm.1 n1
      obtain⟨q,hq⟩:=Fk hN hL hl hm.2 n2
      obtain⟨c,hc⟩:=mj a.1 p q
      refine⟨c&&y,fun w hws ix d k b m z fo se rs=>?_⟩
      have hyw:=hy w hws ix d k b m z fo se rs
      unfold gI at hyw ⊢
      rw[aN]
      generalize aK _ n=rec at hyw ⊢
      dsimp only
      rw[cU hi1,aA hi0,aA hi1,ha,e1,aL,e2,aL,aA (show(!decide (a.2.1.2.2.1=(-1:Int)))=true by simpa using n1),aL,aA (show(!decide (a.2.2.1.2.2.1=(-1:Int)))=true by simpa using n2),hp w hws ix d k b m z fo se rs,aL]
      dsimp only
      rw[hq w hws ix d k b m z fo se rs,aL]
      exact fin p q c hc w ix d k b m z fo se rs rec hyw
   ·refine⟨true,fun w hws ix d k b m z fo se rs=>?_⟩
    unfold gI
    rw[aN]
    dsimp only
    rw[gn (by omega)]
    rfl
 obtain⟨y,hy⟩:=key (Int.toNat (List.length u.2.2.2.1:Int)+1) 0 (by omega) (by omega)
 refine⟨y,fun w hws ix d k b m z fo se rs=>?_⟩
 have hyw:gI (Int.toNat (List.length u.2.2.2.1:Int)+1) (u.2.2.2.1,(List.length u.2.2.2.1:Int),0,w,ix,d,k,b,m,z,l,fo,se,rs,u)=_:=hy w hws ix d k b m z fo se rs
 unfold nX
 rw[hyw]
 cases y<;>rfl
theorem Na{s:cM}{PS:Zg}{u:dD}{l:Zm}(hw:u.2.2.2.2.1.length≤aG)(hR:RK (cR s u))(hL:LI s PS u l)(hl:l.length=u.2.2.1.length)(hf:1≤(cL s u.2.1).length)(hf2:(cL s u.2.1).length≤1000)(p:Int)(hp:p∈PS)(h0:(0:Int)∈PS)(hc:∀t∈u.2.2.2.2.1,t.2.2.1.2.2.2.2.1∈PS):
 ∃x,FV s PS x u.2.1∧∀(w:bL),w.1.1=s→∀ix d k b m z fo se rs,nu u p l w ix d k b m z fo se rs=some (w,ix,d,k,b,m,z,fo,se,rs,x):=by
 have hB:=hB
 have key:∀(n i:Nat)(v:Zg),u.2.2.2.2.1.length -i<n→i≤u.2.2.2.2.1.length→v.length=(cL s u.2.1).length→(∀x∈v,x∈PS)→∃v',v'.length=(cL s u.2.1).length∧(∀x∈v',x∈PS)∧∀(w:bL) ix d k b m z fo se rs,
  jy n (p,l,u.2.2.2.2.1,(u.2.2.2.2.1.length:Int),(i:Int),w,ix,d,k,b,m,z,fo,se,rs,u,0,0,0,v)=some (.bA (p,w,ix,d,k,b,m,z,fo,se,rs,u,0,0,0,v')):=by
  intro n
  induction n with
  |zero=>intro i v h;omega
  |
   succ n ih=>
   intro i v hn hi hv hP
   by_cases h:i<u.2.2.2.2.1.length
   ·have hi1:(i:Int)<(u.2.2.2.2.1.length:Int):=by omega
    have hi0:=dx i
    have hm:=dO (t:=bJ) (l:=u.2.2.2.2.1) hi0 hi1
    have hw2:=ld i (by omega)
    have hc2:=hc _ hm
    obtain⟨hi,ht⟩:=hR.st _ hm
    obtain⟨y,ey,hy⟩:=M8 hL hl ht
    have hb:(nth bJ u.2.2.2.2.1 (i:Int)).2.1<(v.length:Int):=by rw[hv];exact hi.b1
    obtain⟨v',q1,q2,q3⟩:=ih (i+1) (List.set v (Int.toNat (nth bJ u.2.2.2.2.1 (i:Int)).2.1) y) (by omega) (by omega) (by rw[cj];exact hv) (fun x hx=>by
     rcases List.mem_or_eq_of_mem_set hx with h|rfl
     ·exact hP _ h
     ·rcases hy with h|⟨_,rfl⟩
      ·exact h
      ·exact hc2)
    refine⟨v',q1,q2,fun w ix d k b m z fo se rs=>?_⟩
    have hyw:=q3 w ix d k b m z fo se rs
    unfold jy at hyw ⊢
    rw[aN]
    generalize aK _ n=rec at hyw ⊢
    dsimp only
    rw[cU hi1,aA hi0,aA hi1,ey,aL,aA hi.b0,aA hb,hw2]
    exact hyw
   ·refine⟨v,hv,hP,fun w ix d k b m z fo se rs=>?_⟩
    unfold jy
    rw[aN]
    dsimp only
    rw[gn (by omega)]
 obtain⟨v',q1,q2,q3⟩:=key (Int.toNat (List.length u.2.2.2.2.1:Int)+1) 0 (List.set (List.replicate (Int.toNat ((cL s u.2.1).length:Int)) (0:Int)) (Int.toNat (0:Int)) p) (by omega) (by omega) (by rw[cj,jC,ew]) (fun x hx=>by
  rcases List.mem_or_eq_of_mem_set hx with h|rfl
  ·rw[List.mem_replicate] at h
   rw[h.2];exact h0
  ·exact hp)
 refine⟨(u.2.1,(p,((0:Int),(v',())))),⟨q1,q2⟩,fun w hws ix d k b m z fo se rs=>?_⟩
 subst hws
 have e:(nth bR w.1.1.2.2.1 u.2.1).2.2.2.2.1=cL w.1.1 u.2.1:=rfl
 have q:=q3 w ix d k b m z fo se rs
 have q':jy (Int.toNat (List.length u.2.2.2.2.1:Int)+1) (p,l,u.2.2.2.2.1,(List.length u.2.2.2.2.1:Int),0,w,ix,d,k,b,m,z,fo,se,rs,u,0,0,0,List.set (List.replicate (Int.toNat ((cL w.1.1 u.2.1).length:Int)) (0:Int)) (Int.toNat (0:Int)) p)=_:=q
 unfold nu
 rw[aA hR.h0,aA hR.h1,e,eN _,aA (jU _),aA (by omega),aA (by rw[jC,ew];omega),q',aI]
def iu(s:cM)(ix:Ix)(p:Pl):Zn:=if 0≤p.1∧p.1<(s.2.2.1.length:Int) then(List.range (cL s p.1).length).flatMap fun(c:Nat)=>aQ aF (.slice 64 aW) (p.1,(p.2.1,(aZ ((aZ ((16:Int)*p.2.2.1))+(c:Int)),()))) (bE ix) else[]
theorem Fl{w:bL}{PS:Zg}{U:List Pl}{ix:Ix}(hw:WY w PS U ix)(p:Pl)(d k:Int)(b:Bool)(m:DM)(z:Unit)(fo:FM)(se:SM)(rs:Zi):
 gF p w ix d k b m z fo se rs=some (w,ix,d,k,b,m,z,fo,se,rs,(w.1,(iu w.1.1 ix p,()))):=by
 have hB:=hB
 suffices hW:W (gF p w ix d k b m z fo se rs) fun r=>r=(w,ix,d,k,b,m,z,fo,se,rs,(w.1,(iu w.1.1 ix p,()))) by
  obtain⟨r,e,rfl⟩:=hW
  exact e
 unfold gF
 by_cases h0:0≤p.1
 ·rw[cU h0]
  by_cases h1:p.1<(w.1.1.2.2.1.length:Int)
  ·rw[cS h1,aL,aA rfl,aA h0,aA h1]
   have e:(nth bR w.1.1.2.2.1 p.1).2.2.2.2.1=cL w.1.1 p.1:=rfl
   have hF:=hw.fl _ h0 h1
   rw[e]
   have ea:iu w.1.1 ix p=(List.range (cL w.1.1 p.1).length).flatMap fun(c:Nat)=>aQ aF (.slice 64 aW) (p.1,(p.2.1,(aZ ((aZ ((16:Int)*p.2.2.1))+(c:Int)),()))) (bE ix):=aA ⟨h0,h1⟩
   rw[ea]
   refine bX.2 (W.ct (cP (L:=kr) rfl (CT (fun r=>r=(w,ix,d,k,b,m,z,fo,se,rs,w.1,(List.range (cL w.1.1 p.1).length).flatMap fun(c:Nat)=>aQ aF (.slice 64 aW) (p.1,(p.2.1,(aZ ((aZ ((16:Int)*p.2.2.1))+(c:Int)),()))) (bE ix))) fun _=>False) (cL w.1.1 p.1).length (fun c(L:Zn)=>(((cL w.1.1 p.1).length:Int),(c:Int),w,ix,d,k,b,m,z,fo,se,rs,p,w.1,L)) (fun c L=>L.length≤c*1000000∧L=(List.range c).flatMap fun(c:Nat)=>aQ aF (.slice 64 aW) (p.1,(p.2.1,(aZ ((aZ ((16:Int)*p.2.2.1))+(c:Int)),()))) (bE ix)) ?step ?stop _ 0 [] (by omega) (by omega) ⟨gL _,rfl⟩) (fun r h=>?_) fun r h=>h.elim)
   case step=>
    rintro rec c L hc ⟨hL,hP⟩ kk
    dsimp only
    have hw2:=ld c (by omega)
    obtain⟨q1,q2⟩:=hw.ix (p.1,(p.2.1,(aZ ((aZ ((16:Int)*p.2.2.1))+(c:Int)),())))
    rw[cU (by omega),aA (by omega),hw2]
    refine kk _ ⟨by rw[ep];omega,?_⟩
    rw[List.range_succ,List.flatMap_append,←hP,List.flatMap_cons,List.flatMap_nil,dW]
   case stop=>
    rintro rec L ⟨hL,hP⟩
    dsimp only
    rw[gn (by omega),hP]
    exact⟨_,rfl,rfl⟩
   ·subst h
    exact⟨_,rfl,rfl⟩
  ·have ea:iu w.1.1 ix p= []:=aC fun h=>h1 h.2
   rw[dz h1,ea];exact⟨_,rfl,rfl⟩
 ·have ea:iu w.1.1 ix p= []:=aC fun h=>h0 h.1
  rw[aC (show¬decide ((0:Int)≤p.1)=true by simpa using h0),ea];exact⟨_,rfl,rfl⟩
structure T2(w1:bL)(ix1:Ix)(k1:Int)(w2:bL)(ix2:Ix)(k2:Int)(lo PS:Zg)(U:List Pl)(d:Int)(Gd:kS→Prop):Prop where
 h1:WX w1 lo PS U ix1
 h2:WX w2 lo PS U ix2
 tb:w2.1=w1.1
 rd:∀(p:Pl) r,Em (w1.1,(iu w1.1.1 ix1 p,())) p.1 p.2.1 p.2.2.1 d k1=some r→(∀q∈r.2.2,Gd q)→Em (w2.1,(iu w2.1.1 ix2 p,())) p.1 p.2.1 p.2.2.1 d k2=some r
structure FT(b:cM):Prop where
 dA:b.2.2.1.length≤6
 rules:b.2.2.2.1.length≤4
 fields:∀x∈b.2.2.1,x.2.2.2.2.1.length≤6
 acw:∀x∈b.2.2.2.1,x.2.2.2.2.1.length≤6
theorem Nb(b:cM)(h:SS b):∃r,L6 b=some r∧(r=true→FT b):=by
 have hB:=hB
 have h3:=h.dA
 have h4:=h.rules
 have h5:=h.iX
 have h6:=h.fv
 suffices hW:W (L6 b) fun r=>r=true→FT b by
  obtain⟨r,e,h⟩:=hW
  exact⟨r,e,h⟩
 have nb:∀n:Nat,n≤aG→n -0<eP:=fun n hn=>by show _<18446744073709551616;omega
 have no:(false:Bool)=true→FT b:=fun h=>(by cases h)
 unfold L6
 refine bX.2 (W.ct (cP (L:=G3) rfl (CT (fun d=>d=b∧∀j(hj:j<b.2.2.1.length),b.2.2.1[j].2.2.2.2.1.length≤6) fun r=>r=false) b.2.2.1.length (fun c(_:Unit)=>((c:Int),b)) (fun c _=>∀j(hj:j<b.2.2.1.length),j<c→b.2.2.1[j].2.2.2.2.1.length≤6) ?step ?stop eP 0 () (nb _ h3) (by omega) (fun j _ h=>absurd h (Nat.not_lt_zero _))) (fun d hd=>?_) fun r hr=>by subst hr;exact no)
 case step=>
  intro rec c _ hc hI kk
  dsimp only
  have hw2:=ld c (by omega)
  have hcc:(c:Int)<(b.2.2.1.length:Int):=by omega
  rw[cU hcc,eN c,aA hcc,dg (t:=bR) hc]
  by_cases a1:(6:Int)<(b.2.2.1[c].2.2.2.2.1.length:Int)
  ·rw[cU a1];exact⟨_,rfl,rfl⟩
  ·rw[aC (show¬decide ((6:Int)<(b.2.2.1[c].2.2.2.2.1.length:Int))=true by simpa using a1),eN c,aA hcc,aL]
   split
   ·exact⟨_,rfl,rfl⟩
   ·rw[hw2]
    refine kk () fun j hj hjc=>?_
    by_cases e:j=c
    ·subst e;omega
    ·exact hI j hj (by omega)
 case stop=>
  intro rec _ hI
  dsimp only
  rw[gn (by omega)]
  exact⟨_,rfl,rfl,fun j hj=>hI j hj hj⟩
 obtain⟨rfl,hf⟩:=hd
 refine bX.2 (W.ct (cP (L:=G4) rfl (CT (fun d'=>d'=d∧∀j(hj:j<d.2.2.2.1.length),d.2.2.2.1[j].2.2.2.2.1.length≤6) fun r=>r=false) d.2.2.2.1.length (fun c(_:Unit)=>((c:Int),d)) (fun c _=>∀j(hj:j<d.2.2.2.1.length),j<c→d.2.2.2.1[j].2.2.2.2.1.length≤6) ?step ?stop eP 0 () (nb _ h4) (by omega) (fun j _ h=>absurd h (Nat.not_lt_zero _))) (fun d' hd=>?_) fun r hr=>by subst hr;exact no)
 case step=>
  intro rec c _ hc hI kk
  dsimp only
  have hw2:=ld c (by omega)
  have hcc:(c:Int)<(d.2.2.2.1.length:Int):=by omega
  rw[cU hcc,eN c,aA hcc,dg (t:=bZ) hc]
  by_cases a1:(4:Int)<(d.2.2.2.1[c].2.2.1.length:Int)
  ·rw[cU a1];exact⟨_,rfl,rfl⟩
  ·rw[aC (show¬decide ((4:Int)<(d.2.2.2.1[c].2.2.1.length:Int))=true by simpa using a1),eN c,aA hcc]
   by_cases a2:(5:Int)<(d.2.2.2.1[c].2.2.2.1.length:Int)
   ·rw[cU a2];exact⟨_,rfl,rfl⟩
   ·rw[aC (show¬decide ((5:Int)<(d.2.2.2.1[c].2.2.2.1.length:Int))=true by simpa using a2),eN c,aA hcc,aL]
    by_cases a3:(6:Int)<(d.2.2.2.1[c].2.2.2.2.1.length:Int)
    ·rw[cU a3];exact⟨_,rfl,rfl⟩
    ·rw[aC (show¬decide ((6:Int)<(d.2.2.2.1[c].2.2.2.2.1.length:Int))=true by simpa using a3),hw2]
     refine kk () fun j hj hjc=>?_
     by_cases e:j=c
     ·subst e;omega
     ·exact hI j hj (by omega)
 case stop=>
  intro rec _ hI
  dsimp only
  rw[gn (by omega)]
  exact⟨_,rfl,rfl,fun j hj=>hI j hj hj⟩
 obtain⟨rfl,hs⟩:=hd
 refine bX.2 (W.ct (cP (L:=CM) rfl (CT (fun d=>d=d') fun r=>r=false) d'.2.2.2.2.1.length (fun c(_:Unit)=>((c:Int),d')) (fun _ _=>True) ?step ?stop eP 0 () (nb _ h5) (by omega) trivial) (fun d hd=>?_) fun r hr=>by subst hr;exact no)
 case step=>
  intro rec c _ hc _ kk
  dsimp only
  have hw2:=ld c (by omega)
  have hcc:(c:Int)<(d'.2.2.2.2.1.length:Int):=by omega
  rw[cU hcc,eN c,aA hcc]
  split
  ·exact⟨_,rfl,rfl⟩
  ·rw[hw2];exact kk () trivial
 case stop=>
  intro rec _ _
  dsimp only
  rw[gn (by omega)]
  exact⟨_,rfl,rfl⟩
 subst hd
 refine bX.2 (W.ct (cP (L:=CN) rfl (CT (fun d'=>d'=d) fun r=>r=false) d.2.2.2.2.2.1.length (fun c(_:Unit)=>((c:Int),d)) (fun _ _=>True) ?step ?stop eP 0 () (nb _ h6) (by omega) trivial) (fun d' hd=>?_) fun r hr=>by subst hr;exact no)
 case step=>
  intro rec c _ hc _ kk
  dsimp only
  have hw2:=ld c (by omega)
  have hcc:(c:Int)<(d.2.2.2.2.2.1.length:Int):=by omega
  rw[cU hcc,eN c,aA hcc]
  split
  ·exact⟨_,rfl,rfl⟩
  ·rw[hw2];exact kk () trivial
 case stop=>
  intro rec _ _
  dsimp only
  rw[gn (by omega)]
  exact⟨_,rfl,rfl⟩
 subst hd
 by_cases c1:(d'.1.length:Int)≤4
 ·rw[cU c1]
  by_cases c2:(d'.2.1.length:Int)≤5
  ·rw[cU c2]
   by_cases c3:(d'.2.2.1.length:Int)≤6
   ·rw[cU c3]
    by_cases c4:(d'.2.2.2.1.length:Int)≤4
    ·rw[cU c4]
     have gx:FT d':=⟨by omega,by omega,fun x hx=>by
      obtain⟨j,hj,rfl⟩:=jd hx
      exact hf j hj,fun x hx=>by
      obtain⟨j,hj,rfl⟩:=jd hx
      exact hs j hj⟩
     split
     ·exact⟨_,rfl,fun _=>gx⟩
     ·exact⟨_,rfl,no⟩
    ·rw[aC (show¬decide ((d'.2.2.2.1.length:Int)≤4)=true by simpa using c4)];exact⟨_,rfl,no⟩
   ·rw[aC (show¬decide ((d'.2.2.1.length:Int)≤6)=true by simpa using c3)];exact⟨_,rfl,no⟩
  ·rw[aC (show¬decide ((d'.2.1.length:Int)≤5)=true by simpa using c2)];exact⟨_,rfl,no⟩
 ·rw[aC (show¬decide ((d'.1.length:Int)≤4)=true by simpa using c1)];exact⟨_,rfl,no⟩
theorem Nc(w:bL)(h:SS w.1.1):∃r,f49 w=some r∧(r=true→FT w.1.1∧w.2.1.length≤60):=by
 obtain⟨r,e,hr⟩:=Nb w.1.1 h
 unfold f49 f72
 rw[e,aL]
 cases r with
 |false=>exact⟨false,rfl,fun h=>(by cases h)⟩
 |
  true=>
  have ht:=hr rfl
  rw[aA rfl,aL,aL]
  split
  ·exact⟨_,rfl,fun h=>⟨ht,by have h:(w.2.1.length:Int)≤60:=gM h;omega⟩⟩
  ·exact⟨false,rfl,fun h=>(by cases h)⟩
theorem Nf(w:bL)(h:SS w.1.1):∃r,YY w=some r∧(r=true→FT w.1.1∧w.2.1.length≤60):=by
 have hB:=hB
 have h4:=h.rules
 suffices hW:W (YY w) fun r=>r=true→FT w.1.1∧w.2.1.length≤60 by
  obtain⟨r,e,h⟩:=hW
  exact⟨r,e,h⟩
 have no:(false:Bool)=true→FT w.1.1∧w.2.1.length≤60:=fun h=>(by cases h)
 unfold YY
 refine bX.2 (W.ct (cP (L:=L7) rfl (CT (fun d=>d=(w,w.1.1)) fun r=>r=false) w.1.1.2.2.2.1.length (fun c(_:Unit)=>((c:Int),w,w.1.1)) (fun _ _=>True) ?step ?stop eP 0 () (by show _<18446744073709551616;omega) (by omega) trivial) (fun d hd=>?_) fun r hr=>by subst hr;exact no)
 case step=>
  intro rec c _ hc _ kk
  dsimp only
  have hw2:=ld c (by omega)
  have hcc:(c:Int)<(w.1.1.2.2.2.1.length:Int):=by omega
  rw[cU hcc,eN c,aA hcc]
  split
  ·exact⟨_,rfl,rfl⟩
  ·rw[hw2];exact kk () trivial
 case stop=>
  intro rec _ _
  dsimp only
  rw[gn (by omega)]
  exact⟨_,rfl,rfl⟩
 subst hd
 dsimp only
 obtain⟨r,e,hr⟩:=Nc w h
 rw[e,aL]
 cases r with
 |false=>exact⟨false,rfl,no⟩
 |
  true=>
  have ht:=hr rfl
  rw[aA rfl]
  split
  ·exact⟨_,rfl,fun _=>ht⟩
  ·exact⟨false,rfl,no⟩
def eW(k:cF)(l:Zn):Zn:=l.filter fun f=>bD aF f.1 k
theorem xy(k:cF)(l:Zn)(x:fq):eW k (l++[x])=eW k l++if bD aF x.1 k=true then[x] else[]:=by
 unfold eW
 rw[List.filter_append,pI]
 rfl
def wX(l:Zq):Zu:=l.foldl (fun m u=>bC (.int .i64) u.2.1 true m) []
theorem Hg(l:Zq)(u:dD):wX (l++[u])=bC (.int .i64) u.2.1 true (wX l):=by
 unfold wX
 rw[List.foldl_append]
 rfl
theorem xz:∀(l:Zq)(m:Zu),(l.foldl (fun m u=>bC (.int .i64) u.2.1 true m) m).length≤m.length+l.length
 |[],m=>dc _
 |
  u::l,m=>by
  have h:=xz l (bC (.int .i64) u.2.1 true m)
  have h2:(bC (.int .i64) u.2.1 true m).length≤m.length+1:=dt (kt:=.int .i64)
  rw[List.foldl_cons,d9]
  omega
theorem Jg(l:Zq):(wX l).length≤l.length:=by
 have h:=xz l []
 rw[lO,dV] at h
 exact h
theorem qV{α:Type}(l:List α)(c:Nat)(h:c<l.length):l.take (c+1)=l.take c++[l[c]]:=List.take_succ_eq_append_getElem h
theorem Jh(w:bL)(hf:w.2.1.length≤1000000)(hr:w.1.1.2.2.2.1.length≤aG)(d k:Int)(v:Bool):
 ∃ix:ZS,qT w d k v=some (w,some ix,d,k,v,some (wX w.1.1.2.2.2.1),(),[],[],[])∧∀key,aQ aF (.slice 64 aW) key ix=eW key w.2.1:=by
 have hB:=hB
 suffices hW:W (qT w d k v) fun r=>∃ix:ZS,r=(w,some ix,d,k,v,some (wX w.1.1.2.2.2.1),(),[],[],[])∧∀key,aQ aF (.slice 64 aW) key ix=eW key w.2.1 by
  obtain⟨r,e,ix,rfl,h⟩:=hW
  exact⟨ix,e,h⟩
 unfold qT
 refine bX.2 (W.ct (cP (L:=xq) rfl (CT (fun r=>∃ix:ZS,r=(d,k,w,ix,([]:Zu),w,0,0,v)∧∀key,aQ aF (.slice 64 aW) key ix=eW key w.2.1) fun _=>False) w.2.1.length (fun c(ix:ZS)=>(d,k,w.2.1,(w.2.1.length:Int),(c:Int),w,ix,([]:Zu),w,0,0,v)) (fun c ix=>ix.length≤2*c∧∀key,aQ aF (.slice 64 aW) key ix=eW key (w.2.1.take c)) ?step ?stop _ 0 [] (by omega) (by omega) ⟨gL _,fun key=>rfl⟩) (fun r hr=>?_) fun r hr=>hr.elim)
 case step=>
  rintro rec c ix hc ⟨hl,hI⟩ kk
  dsimp only
  have hw2:=ld c (by omega)
  have hcc:(c:Int)<(w.2.1.length:Int):=by omega
  rw[cU hcc,eN c,aA hcc,dg (t:=aW) hc]
  have ht:=qV w.2.1 c hc
  generalize w.2.1[c]=x at ht ⊢
  have h1:(aQ aF (.slice 64 aW) x.1 ix).length≤w.2.1.length:=by
   rw[hI x.1]
   exact cI (uD ..) (by rw[kz];omega)
  rw[aA ((fy aF x.1 x.1).2 rfl),aA (show ix.length+1≤aG by omega),aA (show((aQ aF (.slice 64 aW) x.1 ix).length+List.length [x])*64≤aG by rw[db];omega),hw2]
  refine kk _ ⟨?_,fun key=>?_⟩
  ·have q1:(bC aF x.1 (Ty.aD (.slice 64 aW)) ix).length≤ix.length+1:=dt (kt:=aF)
   have q2:(bC aF x.1 (aQ aF (.slice 64 aW) x.1 ix++[x]) (bC aF x.1 (Ty.aD (.slice 64 aW)) ix)).length≤(bC aF x.1 (Ty.aD (.slice 64 aW)) ix).length+1:=dt (kt:=aF)
   omega
  ·rw[ht,xy]
   by_cases e:key=x.1
   ·subst e
    rw[dG (kt:=aF) (vt:=.slice 64 aW) rfl,hI,aA ((fy aF x.1 x.1).2 rfl)]
   ·rw[dS (kt:=aF) (vt:=.slice 64 aW) rfl e,dS (kt:=aF) (vt:=.slice 64 aW) rfl e,hI,aC (fun h=>e ((fy aF x.1 key).1 h).symm),dW]
 case stop=>
  rintro rec ix ⟨hl,hI⟩
  dsimp only
  rw[gn (by omega)]
  rw[List.take_length] at hI
  exact⟨_,rfl,ix,rfl,hI⟩
 obtain⟨ix,rfl,hI⟩:=hr
 dsimp only
 refine bX.2 (W.ct (cP (L:=xr) rfl (CT (fun r=>r=(d,k,ix,wX w.1.1.2.2.2.1,w,0,0,v)) fun _=>False) w.1.1.2.2.2.1.length (fun c(m:Zu)=>(d,k,w.1.1.2.2.2.1,(w.1.1.2.2.2.1.length:Int),(c:Int),ix,m,w,0,0,v)) (fun c m=>m=wX (w.1.1.2.2.2.1.take c)) ?step ?stop _ 0 [] (by omega) (by omega) rfl) (fun r hr=>?_) fun r hr=>hr.elim)
 case step=>
  rintro rec c m hc rfl kk
  dsimp only
  have hw2:=ld c (by omega)
  have hcc:(c:Int)<(w.1.1.2.2.2.1.length:Int):=by omega
  have hl:=Jg (w.1.1.2.2.2.1.take c)
  rw[kz] at hl
  rw[cU hcc,eN c,aA hcc,aA (show(wX (w.1.1.2.2.2.1.take c)).length+1≤aG by omega),hw2,dg (t:=bZ) hc]
  exact kk _ (by rw[qV _ _ hc,Hg])
 case stop=>
  rintro rec m rfl
  dsimp only
  rw[gn (by omega),List.take_length]
  exact⟨_,rfl,rfl⟩
 subst hr
 exact⟨_,rfl,ix,rfl,hI⟩
theorem nw{α β:Type}{f:α→List β}{n:Nat}:∀{l:List α},(∀x∈l,(f x).length≤n)→(l.flatMap f).length≤l.length*n
 |[],_=>gL _
 |
  x::l,h=>by
  have h1:=h x (dE ..)
  have h2:=nw (f:=f) (n:=n) (l:=l) fun y hy=>h y (d7 _ hy)
  rw[List.flatMap_cons,ep,d9,gj]
  omega
def A7(w:bL)(p:Int):Zg:=0::p::(w.2.1.map (fun f=>f.2.1)++w.1.1.2.2.2.1.flatMap fun u=>u.2.2.2.2.1.map fun t=>t.2.2.1.2.2.2.2.1)
def Uo(w:bL)(p:Int)(x:Pl):List Pl:=x::(List.range w.1.1.2.2.1.length).flatMap fun(i:Nat)=>(A7 w p).flatMap fun(q:Int)=>(List.range 4).map fun(j:Nat)=>(((i:Int),(q,((j:Int),()))):Pl)
theorem Fm{w:bL}(p:Int)(hT:FT w.1.1)(hf:w.2.1.length≤60):(A7 w p).length≤86:=by
 have h:=nw (f:=fun u:dD=>u.2.2.2.2.1.map fun t=>t.2.2.1.2.2.2.2.1) (n:=6) (l:=w.1.1.2.2.2.1) fun x hx=>by rw[im];exact hT.acw x hx
 have h4:=hT.rules
 unfold A7
 rw[d9,d9,ep,im]
 omega
theorem Ji{w:bL}(p:Int)(x:Pl)(hT:FT w.1.1)(hf:w.2.1.length≤60):(Uo w p x).length≤2100:=by
 have h1:=Fm p hT hf
 have h2:∀i:Nat,((A7 w p).flatMap fun(q:Int)=>(List.range 4).map fun(j:Nat)=>(((i:Int),(q,((j:Int),()))):Pl)).length≤344:=fun i=>by
  have:=nw (f:=fun(q:Int)=>(List.range 4).map fun(j:Nat)=>(((i:Int),(q,((j:Int),()))):Pl)) (n:=4) (l:=A7 w p) fun y _=>by rw[im,List.length_range];exact dc _
  omega
 have h3:=nw (f:=fun(i:Nat)=>(A7 w p).flatMap fun(q:Int)=>(List.range 4).map fun(j:Nat)=>(((i:Int),(q,((j:Int),()))):Pl)) (n:=344) (l:=List.range w.1.1.2.2.1.length) fun i _=>h2 i
 rw[List.length_range] at h3
 have h4:=hT.dA
 unfold Uo
 rw[d9]
 omega
theorem RW{w:bL}(p:Int)(x:Pl){a q i:Int}(a0:0≤a)(a1:a<(w.1.1.2.2.1.length:Int))(hq:q∈A7 w p)(i0:0≤i)(i1:i<4):(a,(q,(i,())))∈Uo w p x:=by
 refine d7 _ (List.mem_flatMap.2 ⟨a.toNat,List.mem_range.2 (by omega),List.mem_flatMap.2 ⟨q,hq,List.mem_map.2 ⟨i.toNat,List.mem_range.2 (by omega),?_⟩⟩⟩)
 have e1:((a.toNat:Nat):Int)=a:=by omega
 have e2:((i.toNat:Nat):Int)=i:=by omega
 rw[e1,e2]
theorem WXo{w:bL}{lo:Zg}(hc:CG w.1.1 lo)(hT:FT w.1.1)(hf:w.2.1.length≤60)(p:Int)(x:Pl){ix:Ix}(hix:IX (A7 w p) ix):WX w lo (A7 w p) (Uo w p x) ix where
 cg:=hc
 zero:=dE ..
 consts u hu t ht:=d7 _ (d7 _ (jc _ (List.mem_flatMap.2 ⟨u,hu,List.mem_map.2 ⟨t,ht,rfl⟩⟩)))
 pl _ _ _ a0 a1 hq i0 i1:=RW p x a0 a1 hq i0 i1
 len:=cI (Ji p x hT hf) (by decide)
 fl a a0 a1:=by
  have:=hT.fields _ (dO (t:=bR) (l:=w.1.1.2.2.1) a0 a1)
  exact cI this (by decide)
 ix:=hix
theorem Jj{l:Zg}{i j:Nat}(v:Int)(_hi:i<l.length)(hj:j<l.length):nth (.int .i64) (l.set i v) (j:Int)=if i=j then v else nth (.int .i64) l (j:Int):=by
 have hj':j<(l.set i v).length:=by rw[cj];exact hj
 rw[dg (t:=.int .i64) hj',dg (t:=.int .i64) hj,List.getElem_set]
theorem Fo{a:Int}{c:Nat}:imax a 0≤(c:Int)↔a≤(c:Int):=by unfold imax;split<;>omega
theorem S5{a:Int}(h:0≤a):imax a (-1)=a:=by unfold imax;split<;>omega
theorem S6{a:Int}(h:¬0≤a):imax a (-1)= -1:=by unfold imax;split<;>omega
theorem Fp{a:Int}{c:Nat}(hc:c<1024):(c:Int)<qj a 1024↔(c:Int)<a:=by unfold qj;split<;>omega
theorem wm1{y:Int}{i n:Nat}(h0:0≤y)(h1:y≤(i:Int))(hi:i<n)(hn:n≤1000)(hz:¬y=0):aZ (y -1)=y -1∧0≤y -1∧y -1<(n:Int):=⟨fT (by omega) (by omega),by omega,by omega⟩
def n7(own:Zn)(i:Nat)(x:fq)(dy:Nat)(c:Int):Int:=if x.2.2.1.1≤(dy:Int)∧(dy:Int)<x.2.2.1.2.1∧(c=0∨ze (nth aW own (c -1)) x≤0) then((i+1:Nat):Int) else c
theorem S7(own:Zn)(hown:own.length≤1000)(i:Nat)(hi:i<own.length)(x:fq)(c:Zg)(hc:c.length=1024)(hr:∀dy<1024,0≤nth (.int .i64) c ((dy:Nat):Int)∧nth (.int .i64) c ((dy:Nat):Int)≤(i:Int)):
 W (nv eP (own,(i:Int),imax x.2.2.1.1 (0:Int),own,(own.length:Int),(i:Int),c,x)) (CT (fun d=>∃c',d=(own,own,(own.length:Int),(i:Int),c')∧c'.length=1024∧∀dy<1024,nth (.int .i64) c' ((dy:Nat):Int)=n7 own i x dy (nth (.int .i64) c ((dy:Nat):Int))) fun _=>False):=by
 have hB:=hB
 have h0:0≤imax x.2.2.1.1 0:=by unfold imax;split<;>omega
 obtain⟨lo,hlo⟩:∃lo:Nat,imax x.2.2.1.1 (0:Int)=(lo:Int):=⟨(imax x.2.2.1.1 0).toNat,by omega⟩
 have key:∀(n k:Nat)(e:Zg),1024 -k<n→lo≤k→e.length=1024→(∀dy<1024,nth (.int .i64) e ((dy:Nat):Int)=if dy<k then n7 own i x dy (nth (.int .i64) c ((dy:Nat):Int)) else nth (.int .i64) c ((dy:Nat):Int))→
  W (nv n (own,(i:Int),(k:Int),own,(own.length:Int),(i:Int),e,x)) (CT (fun d=>∃c',d=(own,own,(own.length:Int),(i:Int),c')∧c'.length=1024∧∀dy<1024,nth (.int .i64) c' ((dy:Nat):Int)=n7 own i x dy (nth (.int .i64) c ((dy:Nat):Int))) fun _=>False):=by
  intro n
  induction n with
  |zero=>intro k e h;omega
  |
   succ n ih=>
   intro k e hn hk he hI
   unfold nv at ih ⊢
   rw[aN]
   generalize aK _ n=rec at ih ⊢
   dsimp only
   by_cases hlt:(k:Int)<qj x.2.2.1.2.1 (1024:Int)
   ·have hk2:k<1024:=by unfold qj at hlt;split at hlt<;>omega
    have hk3:(k:Int)<(1024:Int):=by omega
    have hw2:=ld k (by omega)
    have hwi:=ld i (by omega)
    have hkT:(k:Int)<x.2.2.1.2.1:=(Fp hk2).1 hlt
    have hkF:x.2.2.1.1≤(k:Int):=Fo.1 (by rw[hlo];omega)
    have hek:nth (.int .i64) e ((k:Nat):Int)=nth (.int .i64) c ((k:Nat):Int):=by rw[hI k hk2,aC (by omega)]
    obtain⟨r0,r1⟩:=hr k hk2
    rw[cU hlt,eN k,aA hk3,hek]
    have next:∀e':Zg,e'.length=1024→(∀dy<1024,nth (.int .i64) e' ((dy:Nat):Int)=if dy<k+1 then n7 own i x dy (nth (.int .i64) c ((dy:Nat):Int)) else nth (.int .i64) c ((dy:Nat):Int))→W (rec (own,(i:Int),((k+1:Nat):Int),own,(own.length:Int),(i:Int),e',x)) (CT (fun d=>∃c',d=(own,own,(own.length:Int),(i:Int),c')∧c'.length=1024∧∀dy<1024,nth (.int .i64) c' ((dy:Nat):Int)=n7 own i x dy (nth (.int .i64) c ((dy:Nat):Int))) fun _=>False):=fun e' h1 h2=>ih (k+1) e' (by omega) (by omega) h1 h2
    have yes:n7 own i x k (nth (.int .i64) c ((k:Nat):Int))=((i+1:Nat):Int)→W (rec (own,(i:Int),aZ ((k:Int)+(1:Int)),own,(own.length:Int),(i:Int),List.set e (Int.toNat (k:Int)) (aZ ((i:Int)+(1:Int))),x)) (CT (fun d=>∃c',d=(own,own,(own.length:Int),(i:Int),c')∧c'.length=1024∧∀dy<1024,nth (.int .i64) c' ((dy:Nat):Int)=n7 own i x dy (nth (.int .i64) c ((dy:Nat):Int))) fun _=>False):=fun hu=>by
     rw[hw2,hwi,ew]
     refine next _ (by rw[cj];exact he) fun dy hdy=>?_
     rw[Jj _ (by omega) (by omega)]
     by_cases e1:k=dy
     ·subst e1;rw[aA rfl,aA (by omega),hu]
     ·rw[aC e1,hI dy hdy]
      by_cases e2:dy<k
      ·rw[aA e2,aA (by omega)]
      ·rw[aC e2,aC (by omega)]
    have no:n7 own i x k (nth (.int .i64) c ((k:Nat):Int))=nth (.int .i64) c ((k:Nat):Int)→W (rec (own,(i:Int),aZ ((k:Int)+(1:Int)),own,(own.length:Int),(i:Int),e,x)) (CT (fun d=>∃c',d=(own,own,(own.length:Int),(i:Int),c')∧c'.length=1024∧∀dy<1024,nth (.int .i64) c' ((dy:Nat):Int)=n7 own i x dy (nth (.int .i64) c ((dy:Nat):Int))) fun _=>False):=fun hu=>by
     rw[hw2]
     refine next _ he fun dy hdy=>?_
     rw[hI dy hdy]
     by_cases e1:dy=k
     ·subst e1;rw[aC (by omega),aA (by omega),hu]
     ·by_cases e2:dy<k
      ·rw[aA e2,aA (by omega)]
      ·rw[aC e2,aC (by omega)]
    generalize nth (.int .i64) c ((k:Nat):Int)=y at r0 r1 yes no ⊢
    by_cases hz:y=0
    ·rw[cU hz,aL,aA rfl,eN k,aA hk3]
     exact yes (by unfold n7;rw[aA ⟨hkF,hkT,Or.inl hz⟩])
    ·obtain⟨hw3,hw4,hw5⟩:=wm1 r0 r1 hi hown hz
     rw[aC (fun h=>hz (gM h)),eN k,aA hk3,hw3,aA hw4,aA hw5,JX,aL,aL]
     by_cases ho:ze (nth aW own (y -1)) x≤0
     ·rw[cU ho,eN k,aA hk3]
      exact yes (by unfold n7;rw[aA ⟨hkF,hkT,Or.inr ho⟩])
     ·rw[aC (fun h=>ho (gM h))]
      exact no (by unfold n7;rw[aC (fun h=>h.2.2.elim hz ho)])
   ·rw[aC (fun h=>hlt (gM h))]
    refine⟨_,rfl,e,rfl,he,fun dy hdy=>?_⟩
    rw[hI dy hdy]
    split
    ·rfl
    ·rename_i hge
     unfold n7
     rw[aC]
     rintro⟨_,h2,_⟩
     exact hlt (Int.lt_of_le_of_lt (by omega) ((Fp hdy).2 h2))
 rw[hlo]
 refine key eP lo c (by show _<18446744073709551616;omega) (dc _) hc fun dy hdy=>?_
 split
 ·rename_i h
  unfold n7
  rw[aC]
  rintro⟨h1,_,_⟩
  have:=(Fo (a:=x.2.2.1.1) (c:=dy)).2 h1
  rw[hlo] at this
  omega
 ·rfl
def Wj(own:Zn)(c dy:Nat)(v:Int):Prop:=0≤v∧v≤(c:Int)∧(((own.take c).foldl (hH (dy:Int)) (zF,false)).2=false→v=0)∧(((own.take c).foldl (hH (dy:Int)) (zF,false)).2=true→1≤v∧nth aW own (v -1)=((own.take c).foldl (hH (dy:Int)) (zF,false)).1)
theorem Wj.next{own:Zn}{c dy:Nat}{v:Int}(h:Wj own c dy v)(hc:c<own.length):Wj own (c+1) dy (n7 own c own[c] dy v):=by
 obtain⟨h0,h1,h2,h3⟩:=h
 unfold Wj
 rw[List.take_succ_eq_append_getElem hc,List.foldl_append,List.foldl_cons,List.foldl_nil]
 generalize (own.take c).foldl (hH (dy:Int)) (zF,false)=st at h2 h3 ⊢
 have hx:nth aW own (((c+1:Nat):Int) -1)=own[c]:=by
  have e:(((c+1:Nat):Int) -1)=(c:Int):=by omega
  rw[e,dg (t:=aW) hc]
 unfold n7 hH
 have hiff:(own[c].2.2.1.1≤(dy:Int)∧(dy:Int)<own[c].2.2.1.2.1∧(v=0∨ze (nth aW own (v -1)) own[c]≤0))↔(own[c].2.2.1.1≤(dy:Int)∧(dy:Int)<own[c].2.2.1.2.1∧(st.2=false∨ze st.1 own[c]≤0)):=by
  cases hs:st.2 with
  |
   false=>
   have:=h2 hs
   exact⟨fun h=>⟨h.1,h.2.1,Or.inl rfl⟩,fun h=>⟨h.1,h.2.1,Or.inl this⟩⟩
  |
   true=>
   obtain⟨q1,q2⟩:=h3 hs
   rw[q2]
   exact⟨fun h=>⟨h.1,h.2.1,h.2.2.elim (fun h=>by omega) Or.inr⟩,fun h=>⟨h.1,h.2.1,h.2.2.elim (fun h=>by cases h) Or.inr⟩⟩
 by_cases hcnd:own[c].2.2.1.1≤(dy:Int)∧(dy:Int)<own[c].2.2.1.2.1∧(v=0∨ze (nth aW own (v -1)) own[c]≤0)
 ·rw[aA hcnd,aA (hiff.1 hcnd)]
  exact⟨dx _,jU _,fun h=>(by cases h),fun _=>⟨by omega,hx⟩⟩
 ·rw[aC hcnd,aC fun h=>hcnd (hiff.2 h)]
  exact⟨h0,by omega,h2,h3⟩
theorem S8(own:Zn)(hown:own.length≤1000):
 W (ku (Int.toNat (List.length own:Int)+1) (own,own,(List.length own:Int),0,Ty.aD i9)) (CT (fun d=>∃c:Zg,d=(own,c)∧c.length=1024∧∀dy<1024,Wj own own.length dy (nth (.int .i64) c ((dy:Nat):Int))) fun _=>False):=by
 have hB:=hB
 have hz:(qL:Zg).length=1024:=by unfold qL;rw[jC]
 have hz0:∀dy<1024,nth (.int .i64) qL ((dy:Nat):Int)=0:=fun dy hdy=>by
  rw[dg (t:=.int .i64) (by rw[hz];exact hdy)]
  unfold qL
  rw[List.getElem_replicate]
 refine cP (L:=ku) rfl _ own.length (fun c(e:Zg)=>(own,own,(own.length:Int),(c:Int),e)) (fun c e=>e.length=1024∧∀dy<1024,Wj own c dy (nth (.int .i64) e ((dy:Nat):Int))) ?step ?stop _ 0 qL (by omega) (by omega) ⟨hz,fun dy hdy=>?_⟩
 case step=>
  rintro rec c e hc ⟨he,hI⟩ kk
  dsimp only
  have hw2:=ld c (by omega)
  have hcc:(c:Int)<(own.length:Int):=by omega
  rw[cU hcc,eN c,aA hcc,dg (t:=aW) hc]
  refine bX.2 ((S7 own hown c hc own[c] e he fun dy hdy=>⟨(hI dy hdy).1,(hI dy hdy).2.1⟩).ct (fun d hd=>?_) fun r hr=>hr.elim)
  obtain⟨c',rfl,h1,h2⟩:=hd
  dsimp only
  rw[hw2]
  exact kk c' ⟨h1,fun dy hdy=>by rw[h2 dy hdy];exact(hI dy hdy).next hc⟩
 case stop=>
  rintro rec e ⟨he,hI⟩
  dsimp only
  rw[gn (by omega)]
  exact⟨_,rfl,e,rfl,he,hI⟩
 rw[hz0 dy hdy]
 exact⟨jU _,jU _,fun _=>rfl,fun h=>(by cases h)⟩
def PV(l:Zn)(k:cF)(dy known:Int):Int:=if(jS l k dy known).2=true then(jS l k dy known).1 else-1
theorem RX(l:Zn)(k:cF)(dy known:Int):jS l k dy known=if 0≤PV l k dy known then(PV l k dy known,true) else(0,false):=by
 unfold PV jS
 dsimp only
 split
 ·rename_i h
  rw[aA rfl,aA h.2]
 ·rfl
theorem Jk{l m:Zn}{k:cF}{dy a b:Int}(h:PV l k dy a=PV m k dy b):jS l k dy a=jS m k dy b:=by
 rw[RX l,RX m,h]
theorem Bk(l:Zn)(k:cF)(known:Int)(hl:l.length≤1000):∃V:Zg,ig l k known=some V∧V.length=1024∧∀dy<1024,nth (.int .i64) V ((dy:Nat):Int)=PV l k (dy:Int) known:=by
 have hB:=hB
 have hown:(l.filter (dF k known)).length≤1000:=cI (uD ..) hl
 have e1:j8 l k known=some (l.filter (dF k known)):=by
  unfold j8
  rw[aA (by omega)]
 obtain⟨z,ez,hz⟩:=S8 (l.filter (dF k known)) hown
 cases z with
 |ret r=>exact hz.elim
 |
  bA d=>
  obtain⟨c,rfl,hc,hI⟩:=hz
  have gx:okP (l.filter (dF k known)) c=true:=by
   unfold okP
   refine List.all_eq_true.2 fun x hx=>?_
   obtain⟨j,hj,rfl⟩:=jd hx
   have:=(hI j (by omega)).2.1
   rw[dg (t:=.int .i64) hj] at this
   rw[cS (show c[j]≤((l.filter (dF k known)).length:Int) from this),cS (show((l.filter (dF k known)).length:Int)≤1000 by omega)]
   rfl
  refine⟨c.map (CJ (l.filter (dF k known))),?_,by rw[im];exact hc,fun dy hdy=>?_⟩
  ·unfold ig
   rw[e1,aL,ez,aI,aA hc,aA gx]
  ·have hI:=hI dy hdy
   have hd:dy<c.length:=by omega
   rw[dg (t:=.int .i64) hd] at hI
   rw[dg (t:=.int .i64) (by rw[im];exact hd),List.getElem_map]
   obtain⟨h0,h1,h2,h3⟩:=hI
   rw[List.take_length] at h2 h3
   have est:(l.filter (dF k known)).foldl (hH (dy:Int)) (zF,false)=iz k (dy:Int) known l (zF,false):=rfl
   rw[est] at h2 h3
   unfold CJ PV jS
   dsimp only
   generalize iz k (dy:Int) known l (zF,false)=st at h2 h3 ⊢
   generalize c[dy]=v at h0 h1 h2 h3 ⊢
   by_cases hs:st.2=true
   ·obtain⟨q1,q2⟩:=h3 hs
    rw[aA (show(0:Int)<v by omega),q2]
    by_cases hp:0≤st.1.2.1
    ·have e:(if st.2=true∧0≤st.1.2.1 then(st.1.2.1,true) else((0:Int),false))=(st.1.2.1,true):=aA ⟨hs,hp⟩
     rw[e,aA rfl]
     exact S5 hp
    ·have e:(if st.2=true∧0≤st.1.2.1 then(st.1.2.1,true) else((0:Int),false))=(0,false):=aC (fun h=>hp h.2)
     rw[e,aC (by decide)]
     exact S6 hp
   ·have hv:=h2 (by simpa using hs)
    have e:(if st.2=true∧0≤st.1.2.1 then(st.1.2.1,true) else((0:Int),false))=(0,false):=aC (fun h=>hs h.1)
    rw[aC (by omega),e,aC (by decide)]
def COV(A B:Zg)(j:Nat)(m:ZM):Prop:=m.length≤j∧∀dy<j,nth (.int .i64) A ((dy:Nat):Int)≠nth (.int .i64) B ((dy:Nat):Int)→∃s∈m,s.1≤(dy:Int)∧(dy:Int)<s.2.1
theorem WR(A B:Zg)(m:ZM)(hm:m.length≤1024):∀(n a:Nat)(e:kR),1024 -a<n→a<1024→
 W (iK n (A,B,(a:Int),e,m)) (CT (fun r=>∃a':Nat,∃e':kR,r=(A,B,(a':Int),e',m)∧a≤a'∧a'<1024∧nth (.int .i64) A ((a':Nat):Int)=nth (.int .i64) B ((a':Nat):Int)∧e'.1=e.1∧(e.2.1=(a:Int)∨a<a'→e'.2.1=(a':Int))) fun r=>∃e':kR,r= .ret (.bA (m++[e']))∧e'.1=e.1∧e'.2.1=1024):=by
 intro n
 have hB:=hB
 induction n with
 |zero=>intro a e h;omega
 |
  succ n ih=>
  intro a e hn ha
  unfold iK at ih ⊢
  rw[aN]
  generalize aK _ n=rec at ih ⊢
  dsimp only
  have h3:(a:Int)<(1024:Int):=by omega
  have hw2:=ld a (by omega)
  rw[eN a,aA h3,eN a,aA h3,hw2]
  by_cases hab:nth (.int .i64) A ((a:Nat):Int)=nth (.int .i64) B ((a:Nat):Int)
  ·rw[aC (show¬(!decide (nth (.int .i64) A ((a:Nat):Int)=nth (.int .i64) B ((a:Nat):Int)))=true by rw[cS hab];decide)]
   exact⟨_,rfl,a,e,rfl,dc _,ha,hab,rfl,fun h=>h.elim id fun h=>absurd h (Nat.lt_irrefl _)⟩
  ·rw[aA (show(!decide (nth (.int .i64) A ((a:Nat):Int)=nth (.int .i64) B ((a:Nat):Int)))=true by rw[dz hab];rfl)]
   by_cases h4:a+1=1024
   ·have h5:((a+1:Nat):Int)=(1024:Int):=by omega
    rw[cU h5,aA (by rw[db];omega)]
    exact⟨_,rfl,_,rfl,rfl,h5⟩
   ·have h5:¬((a+1:Nat):Int)=(1024:Int):=by omega
    rw[aC (fun h=>h5 (gM h))]
    refine(ih (a+1) (e.1,(((a+1:Nat):Int),e.2.2)) (by omega) (by omega)).ct (fun r hr=>?_) fun r hr=>?_
    ·obtain⟨a',e',rfl,g1,g2,g3,g4,g5⟩:=hr
     exact⟨a',e',rfl,by omega,g2,g3,g4,fun _=>g5 (Or.inl rfl)⟩
    ·exact hr
theorem WS(A B:Zg):∀(n j:Nat)(m:ZM),1024 -j<n→j≤1024→COV A B j m→
 W (jx n (A,B,(j:Int),m)) (CT (fun L=>COV A B 1024 L) fun _=>False):=by
 intro n
 have hB:=hB
 induction n with
 |zero=>intro j m h;omega
 |
  succ n ih=>
  intro j m hn hj hm
  unfold jx at ih ⊢
  rw[aN]
  generalize aK _ n=rec at ih ⊢
  dsimp only
  by_cases h:j<1024
  ·have h3:(j:Int)<(1024:Int):=by omega
   have hw2:=ld j (by omega)
   rw[cU h3,eN j,aA h3,eN j,aA h3]
   by_cases hab:nth (.int .i64) A ((j:Nat):Int)=nth (.int .i64) B ((j:Nat):Int)
   ·rw[cU hab,aI]
    dsimp only
    rw[hw2]
    refine ih (j+1) m (by omega) (by omega) ⟨by have:=hm.1;omega,fun dy hdy hne=>?_⟩
    by_cases e:dy=j
    ·subst e;exact absurd hab hne
    ·exact hm.2 dy (by omega) hne
   ·rw[aC (fun h=>hab (gM h))]
    refine bX.2 (bX.2 ((WR A B m (by have:=hm.1;omega) eP j ((j:Int),((0:Int),())) (by show _<18446744073709551616;omega) h).ct (fun r hr=>?_) fun r hr=>?_))
    ·obtain⟨a',e',rfl,g1,g2,g3,g4,g5⟩:=hr
     have g6:j<a':=by
      rcases Nat.lt_or_ge j a' with h|h
      ·exact h
      ·have:a'=j:=by omega
       subst this
       exact absurd g3 hab
     dsimp only
     rw[aA (show(m.length+List.length [e'])*16≤aG by rw[db];have:=hm.1;omega)]
     refine⟨_,rfl,?_⟩
     refine ih a' (m++[e']) (by omega) (by omega) ⟨by rw[ep,db];have:=hm.1;omega,fun dy hdy hne=>?_⟩
     by_cases e:dy<j
     ·obtain⟨s,hs,q⟩:=hm.2 dy e hne
      exact⟨s,iP _ hs,q⟩
     ·refine⟨e',jc _ (List.mem_singleton.2 rfl),?_,?_⟩
      ·have q:e'.1=(j:Int):=g4
       rw[q];omega
      ·have q:e'.2.1=(a':Int):=g5 (Or.inr g6)
       rw[q];omega
    ·obtain⟨e',rfl,g4,g5⟩:=hr
     show COV A B 1024 (m++[e'])
     refine⟨by rw[ep,db];have:=hm.1;omega,fun dy hdy hne=>?_⟩
     by_cases e:dy<j
     ·obtain⟨s,hs,q⟩:=hm.2 dy e hne
      exact⟨s,iP _ hs,q⟩
     ·refine⟨e',jc _ (List.mem_singleton.2 rfl),?_,?_⟩
      ·have q:e'.1=(j:Int):=g4
       rw[q];omega
      ·have q:e'.2.1=1024:=g5
       rw[q];omega
  ·have e:j=1024:=by omega
   subst e
   rw[aC (by decide)]
   exact⟨_,rfl,hm⟩
theorem diff_eq(A B:Zg):∃L,lH A B=some L∧COV A B 1024 L:=by
 obtain⟨z,ez,hz⟩:=WS A B eP 0 [] (by decide) (by omega) ⟨dc _,fun dy h=>absurd h (Nat.not_lt_zero _)⟩
 cases z with
 |ret r=>exact hz.elim
 |
  bA L=>
  refine⟨L,?_,hz⟩
  rw[CK]
  unfold pw
  have ez':jx eP (A,B,0,([]:ZM))=some (.bA L):=ez
  rw[ez',aI]
theorem Jl(l:Zn)(hf:l.length≤1000000):∃ix:ZS,Y1 l=some (some ix)∧∀key,aQ aF (.slice 64 aW) key ix=eW key l:=by
 have hB:=hB
 suffices hW:W (Y1 l) fun r=>∃ix:ZS,r=some ix∧∀key,aQ aF (.slice 64 aW) key ix=eW key l by
  obtain⟨r,e,ix,rfl,h⟩:=hW
  exact⟨ix,e,h⟩
 unfold Y1
 refine bX.2 (W.ct (cP (L:=L8) rfl (CT (fun ix=>∀key,aQ aF (.slice 64 aW) key ix=eW key l) fun _=>False) l.length (fun c(ix:ZS)=>(l,(l.length:Int),(c:Int),ix)) (fun c ix=>ix.length≤2*c∧∀key,aQ aF (.slice 64 aW) key ix=eW key (l.take c)) ?step ?stop _ 0 [] (by omega) (by omega) ⟨gL _,fun key=>rfl⟩) (fun r hr=>⟨_,rfl,r,rfl,hr⟩) fun r hr=>hr.elim)
 case step=>
  rintro rec c ix hc ⟨hl,hI⟩ kk
  dsimp only
  have hw2:=ld c (by omega)
  have hcc:(c:Int)<(l.length:Int):=by omega
  rw[cU hcc,eN c,aA hcc,dg (t:=aW) hc]
  have ht:=qV l c hc
  generalize l[c]=x at ht ⊢
  have h1:(aQ aF (.slice 64 aW) x.1 ix).length≤l.length:=by
   rw[hI x.1]
   exact cI (uD ..) (by rw[kz];omega)
  rw[aA ((fy aF x.1 x.1).2 rfl),aA (show ix.length+1≤aG by omega),aA (show((aQ aF (.slice 64 aW) x.1 ix).length+List.length [x])*64≤aG by rw[db];omega),hw2]
  refine kk _ ⟨?_,fun key=>?_⟩
  ·have q1:(bC aF x.1 (Ty.aD (.slice 64 aW)) ix).length≤ix.length+1:=dt (kt:=aF)
   have q2:(bC aF x.1 (aQ aF (.slice 64 aW) x.1 ix++[x]) (bC aF x.1 (Ty.aD (.slice 64 aW)) ix)).length≤(bC aF x.1 (Ty.aD (.slice 64 aW)) ix).length+1:=dt (kt:=aF)
   omega
  ·rw[ht,xy]
   by_cases e:key=x.1
   ·subst e
    rw[dG (kt:=aF) (vt:=.slice 64 aW) rfl,hI,aA ((fy aF x.1 x.1).2 rfl)]
   ·rw[dS (kt:=aF) (vt:=.slice 64 aW) rfl e,dS (kt:=aF) (vt:=.slice 64 aW) rfl e,hI,aC (fun h=>e ((fy aF x.1 key).1 h).symm),dW]
 case stop=>
  rintro rec ix ⟨hl,hI⟩
  dsimp only
  rw[gn (by omega)]
  rw[List.take_length] at hI
  exact⟨_,rfl,hI⟩
theorem Fq(l:Zn)(k:cF)(dy known:Int):jS (eW k l) k dy known=jS l k dy known:=by
 have e:(eW k l).filter (dF k known)=l.filter (dF k known):=by
  unfold eW
  rw[List.filter_filter]
  refine List.filter_congr fun x _=>?_
  unfold dF
  cases bD aF x.1 k<;>simp
 unfold jS iz
 rw[e]
def Dk(l:Zn)(a b:Int)(k:cF):ZM:=(Option.bind (ig (eW k l) k a) fun V=>Option.bind (ig (eW k l) k b) fun X=>lH V X).getD []
theorem RY(l:Zn)(hl:l.length≤1000)(a b:Int)(k:cF):∃V X,ig (eW k l) k a=some V∧ig (eW k l) k b=some X∧lH V X=some (Dk l a b k)∧(Dk l a b k).length≤1024∧
 ∀dy<1024,jS l k ((dy:Nat):Int) a≠jS l k ((dy:Nat):Int) b→∃s∈Dk l a b k,s.1≤(dy:Int)∧(dy:Int)<s.2.1:=by
 have hk:(eW k l).length≤1000:=cI (uD ..) hl
 obtain⟨V,e1,v1,v2⟩:=Bk (eW k l) k a hk
 obtain⟨X,e2,x1,x2⟩:=Bk (eW k l) k b hk
 obtain⟨L,e3,c1,c2⟩:=diff_eq V X
 have eD:Dk l a b k=L:=by unfold Dk;rw[e1,aL,e2,aL,e3];rfl
 refine⟨V,X,e1,e2,by rw[eD];exact e3,by rw[eD];exact c1,fun dy hdy hne=>?_⟩
 rw[eD]
 refine c2 dy hdy fun he=>hne ?_
 rw[v2 dy hdy,x2 dy hdy] at he
 rw[←Fq l,←Fq l k _ b]
 exact Jk he
def IS(l:Zn)(a b:Int)(q:kS):Prop:=∀s∈Dk l a b q.1,¬imax s.1 q.2.1<qj s.2.1 q.2.2.1
theorem IS.at'{l:Zn}(hl:l.length≤1000){a b:Int}{q:kS}(h:IS l a b q){dy:Nat}(hdy:dy<1024)(h0:q.2.1≤(dy:Int))(h1:(dy:Int)<q.2.2.1):jS l q.1 ((dy:Nat):Int) a=jS l q.1 ((dy:Nat):Int) b:=by
 obtain⟨V,X,_,_,_,_,hc⟩:=RY l hl a b q.1
 refine Classical.byContradiction fun hne=>?_
 obtain⟨s,hs,s0,s1⟩:=hc dy hdy hne
 refine h s hs ?_
 unfold imax qj
 split<;>split<;>omega
theorem Ng(a b:Int)(M:Ix)(rs:Zi)(n i:Int)(q:kS)(t:Rb)(L:ZM)(hL:L.length≤1024):
 W (uk (Int.toNat (List.length L:Int)+1) (a,b,M,rs,n,i,L,(List.length L:Int),0,q,t)) (CT (fun r=>r=(a,b,M,rs,n,i,t)∧∀s∈L,¬imax s.1 q.2.1<qj s.2.1 q.2.2.1) fun r=>r= .ret false):=by
 refine cP (L:=uk) rfl _ L.length (fun c(_:Unit)=>(a,b,M,rs,n,i,L,(L.length:Int),(c:Int),q,t)) (fun c _=>∀j(hj:j<L.length),j<c→¬imax L[j].1 q.2.1<qj L[j].2.1 q.2.2.1) ?step ?stop _ 0 () (by omega) (by omega) (fun j _ h=>absurd h (Nat.not_lt_zero _))
 case step=>
  intro rec c _ hc hI kk
  dsimp only
  have hw2:=ld c (by omega)
  have hcc:(c:Int)<(L.length:Int):=by omega
  rw[cU hcc,eN c,aA hcc,dg (t:=bQ) hc]
  by_cases h:imax L[c].1 q.2.1<qj L[c].2.1 q.2.2.1
  ·rw[cU h];exact⟨_,rfl,rfl⟩
  ·rw[aC (fun h'=>h (gM h')),hw2]
   refine kk () fun j hj hjc=>?_
   by_cases e:j=c
   ·subst e;exact h
   ·exact hI j hj (by omega)
 case stop=>
  intro rec _ hI
  dsimp only
  rw[gn (by omega)]
  refine⟨_,rfl,rfl,fun s hs=>?_⟩
  obtain⟨j,hj,rfl⟩:=jd hs
  exact hI j hj hj
theorem Jm(l:Zn)(hl:l.length≤1000)(rs:Zi)(hr:rs.length≤1000000000)(a b:Int):∃r,Z9 l rs a b=some r∧(r=true→∀q∈rs,IS l a b q):=by
 have hB:=hB
 suffices hW:W (Z9 l rs a b) fun r=>r=true→∀q∈rs,IS l a b q by
  obtain⟨r,e,h⟩:=hW
  exact⟨r,e,h⟩
 obtain⟨ix,e1,hix⟩:=Jl l (by omega)
 unfold Z9
 rw[e1,aL]
 refine bX.2 (W.ct (cP (L:=Mp) rfl (CT (fun _=>∀j(hj:j<rs.length),IS l a b rs[j]) fun r=>r=false) rs.length (fun c(t:Rb)=>(a,b,some ix,rs,(rs.length:Int),(c:Int),t)) (fun c t=>t.length≤c∧(∀k,cC aF k t=true→aQ aF (.slice 16 bQ) k t=Dk l a b k)∧∀j(hj:j<rs.length),j<c→IS l a b rs[j]) ?step ?stop _ 0 [] (by omega) (by omega) ⟨dc _,fun k h=>(by cases h),fun j _ h=>absurd h (Nat.not_lt_zero _)⟩) (fun r hr=>?_) fun r hr=>?_)
 case step=>
  rintro rec c t hc ⟨ht,hC,hI⟩ kk
  dsimp only
  have hw2:=ld c (by omega)
  have hcc:(c:Int)<(rs.length:Int):=by omega
  rw[cU hcc,eN c,aA hcc,dg (t:=aM) hc]
  have hI2:IS l a b rs[c]→∀j(hj:j<rs.length),j<c+1→IS l a b rs[j]:=fun h j hj hjc=>by
   by_cases e:j=c
   ·subst e;exact h
   ·exact hI j hj (by omega)
  generalize rs[c]=q at hI2 ⊢
  obtain⟨V,X,p1,p2,p3,p4,_⟩:=RY l hl a b q.1
  have fin:∀t':Rb,t'.length≤c+1→(∀k,cC aF k t'=true→aQ aF (.slice 16 bQ) k t'=Dk l a b k)→aQ aF (.slice 16 bQ) q.1 t'=Dk l a b q.1→
   W (uk (Int.toNat (List.length (aQ aF (.slice 16 bQ) q.1 t'):Int)+1) (a,b,some ix,rs,(rs.length:Int),(c:Int),aQ aF (.slice 16 bQ) q.1 t',(List.length (aQ aF (.slice 16 bQ) q.1 t'):Int),0,q,t')) (CT (fun d=>W (rec (d.1,d.2.1,d.2.2.1,d.2.2.2.1,d.2.2.2.2.1,aZ (d.2.2.2.2.2.1+(1:Int)),d.2.2.2.2.2.2)) (CT (fun _=>∀j(hj:j<rs.length),IS l a b rs[j]) fun r=>r=false)) (CT (fun _=>∀j(hj:j<rs.length),IS l a b rs[j]) fun r=>r=false)):=fun t' h1 h2 h3=>by
   rw[h3]
   refine(Ng a b (some ix) rs (rs.length:Int) (c:Int) q t' (Dk l a b q.1) p4).ct (fun d hd=>?_) fun r hr=>?_
   ·obtain⟨rfl,hd⟩:=hd
    dsimp only
    rw[hw2]
    exact kk t' ⟨h1,h2,hI2 hd⟩
   ·subst hr;exact rfl
  refine bX.2 ?_
  cases hm:cC aF q.1 t with
  |
   true=>
   rw[aC (show¬(!true)=true by decide),aI]
   exact fin t (by omega) hC (hC _ hm)
  |
   false=>
   have e2:aQ aF (.slice 64 aW) q.1 (bE (some ix))=eW q.1 l:=hix q.1
   rw[aA (show(!false)=true from rfl),e2,p1,aL,p2,aL,p3,aL,aA (show t.length+1≤aG by omega),aI]
   refine fin (bC aF q.1 (Dk l a b q.1) t) (cI (dt (kt:=aF)) (by omega)) (fun k hk=>?_) (dG (kt:=aF) (vt:=.slice 16 bQ) rfl _ _ _)
   by_cases e:k=q.1
   ·subst e;exact dG (kt:=aF) (vt:=.slice 16 bQ) rfl _ _ _
   ·rw[la (kt:=aF) rfl e] at hk
    rw[dS (kt:=aF) (vt:=.slice 16 bQ) rfl e]
    exact hC k hk
 case stop=>
  rintro rec t ⟨ht,hC,hI⟩
  dsimp only
  rw[gn (by omega)]
  exact⟨_,rfl,fun j hj=>hI j hj hj⟩
 ·refine⟨_,rfl,fun _ q hq=>?_⟩
  obtain⟨j,hj,rfl⟩:=jd hq
  exact hr j hj
 ·subst hr;exact fun h=>(by cases h)
abbrev Rs:=MN
abbrev In:=mi
abbrev Rd:=kS
abbrev Ru:=dD
abbrev An:=Bool×In×List Rd
inductive Qy(α:Type) where
 |ret:α→Qy α
 |ask:Pl→(Bool→In→Qy α)→Qy α
def Qy.bind{α β:Type}:Qy α→(α→Qy β)→Qy β
 | .ret a,f=>f a
 | .ask p k,f=>.ask p fun b x=>(k b x).bind f
def Qy.run{α:Type}(O:Pl→An):Qy α→α×List Rd
 | .ret a=>(a,[])
 | .ask p k=>(((k (O p).1 (O p).2.1).run O).1,(O p).2.2++((k (O p).1 (O p).2.1).run O).2)
theorem Qy.run_bind{α β:Type}(O:Pl→An)(f:α→Qy β):∀x:Qy α,(x.bind f).run O=(((f (x.run O).1).run O).1,(x.run O).2++((f (x.run O).1).run O).2)
 | .ret a=>rfl
 |
  .ask p k=>by
  show((((k (O p).1 (O p).2.1).bind f).run O).1,(O p).2.2++(((k (O p).1 (O p).2.1).bind f).run O).2)=((((f ((k (O p).1 (O p).2.1).run O).1)).run O).1,((O p).2.2++((k (O p).1 (O p).2.1).run O).2)++((f ((k (O p).1 (O p).2.1).run O).1).run O).2)
  rw[Qy.run_bind O f (k (O p).1 (O p).2.1),sm]
theorem Qy.two{α:Type}{O O':Pl→An}{G:Rd→Prop}{σ:Rd→Rd}(h:∀p,(∀r∈(O p).2.2,G r)→O' p=((O p).1,(O p).2.1,(O p).2.2.map σ)):∀x:Qy α,(∀r∈(x.run O).2,G r)→x.run O'=((x.run O).1,(x.run O).2.map σ)
 | .ret a,_=>rfl
 |
  .ask p k,hG=>by
  have h1:=h p fun r hr=>hG r (iP _ hr)
  have h2:=Qy.two h (k (O p).1 (O p).2.1) fun r hr=>hG r (jc _ hr)
  unfold Qy.run
  rw[h1,h2,oq]
open Classical in
def da:List Rd→List Rd→List Rd
 |rs,[]=>rs
 |rs,r::t=>da (if r∈rs then rs else rs++[r]) t
theorem ek:∀(a rs b:List Rd),da rs (a++b)=da (da rs a) b
 |[],_,_=>rfl
 |r::a,rs,b=>ek a (if r∈rs then rs else rs++[r]) b
theorem mn:∀(t rs:List Rd)(x:Rd),x∈da rs t↔x∈rs∨x∈t
 |[],rs,x=>by simp[da]
 |
  r::t,rs,x=>by
  unfold da
  rw[mn t]
  by_cases h:r∈rs
  ·rw[aA h,fJ]
   exact⟨fun h=>h.imp id Or.inr,fun h'=>h'.elim Or.inl fun h'=>h'.elim (fun e=>Or.inl (e▸h)) Or.inr⟩
  ·rw[aC h,fJ,jB,lN,or_assoc]
theorem uv:∀(t rs:List Rd),(∀r∈t,r∈rs)→da rs t=rs
 |[],_,_=>rfl
 |
  r::t,rs,h=>by
  unfold da
  rw[aA (h r (dE ..))]
  exact uv t rs fun x hx=>h x (d7 _ hx)
def SJ(se:SM)(rs:List Rd):Prop:=∀r,aQ aM .bool r se=true↔r∈rs
theorem qW:∀(n:List Rd)(se:SM)(acc:List Rd)(s':SM)(a':List Rd),ja n se acc=some (s',a')→SJ se acc→a'=da acc n∧SJ s' a'
 |
  [],se,acc,s',a',h,hs=>by
  cases h
  exact⟨rfl,hs⟩
 |
  r::n,se,acc,s',a',h,hs=>by
  unfold ja at h
  unfold da
  split at h
  ·rename_i hm
   rw[aA ((hs r).1 hm)]
   exact qW n se acc s' a' h hs
  ·rename_i hm
   rw[aC fun hr=>hm ((hs r).2 hr)]
   split at h
   ·split at h
    ·refine qW n _ _ s' a' h fun x=>?_
     rw[jB,lN]
     by_cases e:x=r
     ·subst e
      rw[dG (kt:=aM) (vt:=.bool) rfl]
      exact⟨fun _=>Or.inr rfl,fun _=>rfl⟩
     ·rw[dS (kt:=aM) (vt:=.bool) rfl e,hs x]
      exact⟨Or.inl,fun h=>h.elim id fun h=>absurd h e⟩
    ·cases h
   ·cases h
def w0(s:cM):bL:=((s,([],())),([],()))
def Bl(s:cM)(u:Ru)(l:List In):Bool:=match nX u (w0 s) none 0 0 false none () l [] [] [] with
 |some r=>r.1
 |none=>false
def kW(s:cM)(u:Ru)(p:Int)(l:List In):In:=match nu u p l (w0 s) none 0 0 false none () [] [] [] with
 |some r=>r.2.2.2.2.2.2.2.2.2.2
 |none=>(0,(0,(0,([],()))))
def qX(u:Ru)(p:Int)(l:List In):Int:=
 if(nth aO u.2.2.1 (l.length:Int)).2.2.2.1.2.2.1= -1 then p else nth (.int .i64) (nth bN l (nth aO u.2.2.1 (l.length:Int)).2.2.2.1.2.2.1).2.2.2.1 (nth aO u.2.2.1 (l.length:Int)).2.2.2.1.2.2.2.1
def jz(look:Pl→Qy Rs)(ch:List In→Qy (Bool×List In))(a o:Int)(l:List In):Nat→Nat→Qy (Bool×List In)
 |0,_=>.ret (false,l)
 |n+1,c=>(look (a,(o,((c:Int),())))).bind fun x=>if x.2.2.2.1=true then(ch (l++[x.1])).bind fun y=>if y.1=true then .ret y else jz look ch a o l n (c+1) else jz look ch a o l n (c+1)
def du(m:DM)(a:Int):Nat:=if aQ (.int .i64) .bool a (bE m)=true then 1 else 4
def dK(look:Pl→Qy Rs)(s:cM)(m:DM)(u:Ru)(p:Int):Nat→List In→Qy (Bool×List In)
 |0,l=>.ret (Bl s u l,l)
 |n+1,l=>jz look (dK look s m u p n) (nth aO u.2.2.1 (l.length:Int)).2.2.1 (qX u p l) l (du m (nth aO u.2.2.1 (l.length:Int)).2.2.1) 0
def zR:Rs:=((0,(0,(0,([],())))),(0,([],(false,()))))
def jA(ch:Ru→Qy (Bool×List In))(bd:Ru→List In→In)(R:List Ru)(a:Int):Nat→Nat→Qy Rs
 |0,_=>.ret zR
 |n+1,c=>if(nth bZ R (c:Int)).2.1=a then(ch (nth bZ R (c:Int))).bind fun y=>if y.1=true then .ret (bd (nth bZ R (c:Int)) y.2,((c:Int),(y.2,(true,())))) else jA ch bd R a n (c+1) else jA ch bd R a n (c+1)
def kv(s:cM)(m:DM)(look:Pl→Qy Rs)(p:Pl):Qy Rs:=
 if aQ (.int .i64) .bool p.1 (bE m)=true then jA (fun u=>dK look s m u p.2.1 u.2.2.1.length []) (fun u l=>kW s u p.2.1 l) s.2.2.2.1 p.1 s.2.2.2.1.length 0 else .ask p fun b x=>.ret (x,(0,([],(b,()))))
def Bm(s:cM)(m:DM):Nat→Pl→Qy Rs
 |0,_=>.ret zR
 |n+1,p=>kv s m (Bm s m n) p
theorem pA{k1 k2:Pl→Qy Rs}{ch1 ch2:List In→Qy (Bool×List In)}{a:Int}{l:List In}(h:∀y,k1 (a,y)=k2 (a,y))(hc:∀x,ch1 (l++[x])=ch2 (l++[x]))(o:Int):∀n c,jz k1 ch1 a o l n c=jz k2 ch2 a o l n c
 |0,_=>rfl
 |
  n+1,c=>by
  unfold jz
  rw[h,pA h hc o n]
  simp only[hc]
theorem oj{k1 k2:Pl→Qy Rs}{s:cM}{m:DM}{u:Ru}(h:∀v∈u.2.2.1,∀y,k1 (v.2.2.1,y)=k2 (v.2.2.1,y))(p:Int):∀n l,l.length+n=u.2.2.1.length→dK k1 s m u p n l=dK k2 s m u p n l
 |0,_,_=>rfl
 |n+1,l,hl=>pA (h _ (dO (t:=aO) (l:=u.2.2.1) (dx l.length) (by omega))) (fun x=>oj h p n (l++[x]) (by rw[ep,db];omega)) _ _ _
theorem pB{c1 c2:Ru→Qy (Bool×List In)}{bd:Ru→List In→In}{R:List Ru}{a:Int}(h:∀u∈R,u.2.1=a→c1 u=c2 u):∀n c,c+n≤R.length→jA c1 bd R a n c=jA c2 bd R a n c
 |0,_,_=>rfl
 |
  n+1,c,hc=>by
  unfold jA
  rw[pB h n (c+1) (by omega)]
  split
  ·rename_i hu
   rw[h _ (dO (t:=bZ) (l:=R) (dx c) (by omega)) hu]
  ·rfl
theorem sh{k1 k2:Pl→Qy Rs}{s:cM}{m:DM}{p:Pl}(h:∀u∈s.2.2.2.1,u.2.1=p.1→∀v∈u.2.2.1,∀y,k1 (v.2.2.1,y)=k2 (v.2.2.1,y)):kv s m k1 p=kv s m k2 p:=by
 unfold kv
 rw[pB (fun u hu e=>oj (h u hu e) p.2.1 _ [] (dV _)) _ 0 (by omega)]
theorem pC{s:cM}{lo:Zg}(hr:∀u∈s.2.2.2.1,∀v∈u.2.2.1,lo.idxOf v.2.2.1<lo.idxOf u.2.1)(m:DM):∀n n' p,lo.idxOf p.1<n→lo.idxOf p.1<n'→Bm s m n p=Bm s m n' p
 |
  n+1,n'+1,p,h,h'=>sh fun u hu e v hv y=>by
  have:=hr u hu v hv
  rw[e] at this
  exact pC hr m n n' _ (show lo.idxOf v.2.2.1<n by omega) (show lo.idxOf v.2.2.1<n' by omega)
def LQ(s:cM)(m:DM)(lo:Zg)(p:Pl):Qy Rs:=Bm s m (lo.idxOf p.1+1) p
theorem Jn{s:cM}{lo:Zg}(hr:∀u∈s.2.2.2.1,∀v∈u.2.2.1,lo.idxOf v.2.2.1<lo.idxOf u.2.1)(m:DM)(p:Pl):LQ s m lo p=kv s m (LQ s m lo) p:=by
 show kv s m (Bm s m (lo.idxOf p.1)) p=_
 refine sh fun u hu e v hv y=>?_
 have:=hr u hu v hv
 rw[e] at this
 exact pC hr m _ _ _ this (Nat.lt_succ_self _)
structure MY(w:bL)(PS:Zg)(U:List Pl)(ix:Ix)(d k:Int)(O:Pl→An):Prop where
 wy:WY w PS U ix
 ra:∀p:Pl,p.2.1∈PS→Em (w.1,(iu w.1.1 ix p,())) p.1 p.2.1 p.2.2.1 d k=some (O p)
structure MX(w:bL)(lo PS:Zg)(U:List Pl)(ix:Ix)(m:DM)(d k:Int)(O:Pl→An)(L:Pl→Qy Rs):Prop where
 wx:WX w lo PS U ix
 my:MY w PS U ix d k O
 fix:∀p,L p=kv w.1.1 m L p
variable{w:bL} {lo PS:Zg} {U:List Pl} {ix:Ix} {m:DM} {d k:Int} {O:Pl→An} {L:Pl→Qy Rs}
def FG(r:Rs):Prop:=r.2.2.1.length≤3∧∀y∈r.2.2.1,y.2.2.2.1.length≤1000
theorem FG.zero:FG zR:=⟨gL _,fun y hy=>(by cases hy)⟩
structure MI(s:cM)(PS:Zg)(U:List Pl)(O:Pl→An)(L:Pl→Qy Rs)(fo:FM)(se:SM)(rs:List Rd):Prop where
 fi:FI s PS U fo se rs
 vl:∀e∈fo,e.2=((L e.1).run O).1∧(∀r∈((L e.1).run O).2,r∈rs)∧FG ((L e.1).run O).1
 si:SJ se rs
theorem MI.nil(s:cM)(PS:Zg)(U:List Pl)(O:Pl→An)(L:Pl→Qy Rs):MI s PS U O L [] [] []:=⟨FI.nil s PS U,fun e he=>(by cases he),fun r=>⟨fun h=>(by cases h),fun h=>(by cases h)⟩⟩
theorem MI.put{s:cM}{fo:FM}{se se':SM}{rs:List Rd}(h:MI s PS U O L fo se rs){p:Pl}(hf:FI s PS U (bC aF p ((L p).run O).1 fo) se' (da rs ((L p).run O).2))(hs:SJ se' (da rs ((L p).run O).2))(hg:FG ((L p).run O).1):MI s PS U O L (bC aF p ((L p).run O).1 fo) se' (da rs ((L p).run O).2) where
 fi:=hf
 vl e he:=by
  rcases fw (kt:=aF) he with rfl|he
  ·exact⟨rfl,fun r hr=>(mn ..).2 (Or.inr hr),hg⟩
  ·exact⟨(h.vl e he).1,fun r hr=>(mn ..).2 (Or.inl ((h.vl e he).2.1 r hr)),(h.vl e he).2.2⟩
 si:=hs
def LP(w:bL)(PS:Zg)(U:List Pl)(ix:Ix)(m:DM)(d k:Int)(O:Pl→An)(L:Pl→Qy Rs)(b:Bool)(z:Unit)(p:Pl)(rs:List Rd)(r:bL×Ix×Int×Int×Bool×DM×Unit×FM×SM×Rs×List Rd):Prop:=
 ∃fo se,r=(w,ix,d,k,b,m,z,fo,se,((L p).run O).1,da rs ((L p).run O).2)∧MI w.1.1 PS U O L fo se (da rs ((L p).run O).2)∧(((L p).run O).1.2.2.2.1=true→FV w.1.1 PS ((L p).run O).1.1 p.1)∧FG ((L p).run O).1
theorem RZ(X:MY w PS U ix d k O)(q0:Q0)(q1:Q1)(p:Pl)(hf:L p=kv w.1.1 m L p)(b:Bool)(z:Unit){fo:FM}{se:SM}{rs:List Rd}(h:MI w.1.1 PS U O L fo se rs)(hU:p∈U)(hP:p.2.1∈PS)
 (hd:aQ (.int .i64) .bool p.1 (bE m)=true→W (ur q0 q1 p w ix d k b m z fo se rs) (LP w PS U ix m d k O L b z p rs)):W (i7 q0 q1 p w ix d k b m z fo se rs) (LP w PS U ix m d k O L b z p rs):=by
 have hB:=hB
 unfold i7
 cases hp:cC aF p fo with
 |
  true=>
  rw[aA rfl]
  obtain⟨i,hi⟩:=qv (kt:=aF) (vt:=dZ) rfl hp
  have he:=je hi
  obtain⟨v1,v2,v3⟩:=h.vl _ he
  have v1:aQ aF dZ p fo=((L p).run O).1:=v1
  have hx:=h.fi.ok _ he
  rw[v1] at hx ⊢
  have e:=uv _ _ v2
  exact⟨_,rfl,fo,se,by rw[e],by rw[e];exact h,hx,v3⟩
 |
  false=>
  rw[aC (by decide)]
  cases hder:aQ (.int .i64) .bool p.1 (bE m) with
  |
   true=>
   rw[aA rfl]
   refine bX.2 (oO.2 ((hd hder).mono fun r hr=>?_))
   obtain⟨fo',se',rfl,h',hx,hg3⟩:=hr
   refine⟨_,rfl,?_⟩
   rw[i4]
   dsimp only
   have hl:=h'.fi.len
   have hl2:=X.wy.len
   have hg:fo'.length≤(bC aF p ((L p).run O).1 fo').length:=Fj (kt:=aF)
   have h1:=h'.fi.se
   have h2:=h'.fi.rs
   have e:=uv _ _ fun r hr=>(mn ((L p).run O).2 rs r).2 (Or.inr hr)
   rw[aA (show fo'.length+1≤aG by omega)]
   refine⟨_,rfl,_,_,rfl,?_,hx,hg3⟩
   have h3:MI w.1.1 PS U O L (bC aF p ((L p).run O).1 fo') se' (da (da rs ((L p).run O).2) ((L p).run O).2):=h'.put (by rw[e];exact h'.fi.put hU hx (by omega) (by omega)) (by rw[e];exact h'.si) hg3
   rw[e] at h3
   exact h3
  |
   false=>
   rw[aC (by decide)]
   obtain⟨M,y,x,n,se',rs',e1,e2,e3,hl,hr⟩:=RU X.wy p d k b m z h.fi hp hU hP
   have e1':=Fl X.wy p d k b m z fo se rs
   rw[e1'] at e1
   have eL:iu w.1.1 ix p=M:=by
    have e:=iR e1
    simp only[gU,true_and,and_true] at e
    exact e
   subst eL
   have eO:O p=(y,x,n):=iR ((X.ra p hP).symm.trans e2)
   have eq:(L p).run O=((x,(0,([],(y,())))),n):=by
    rw[hf]
    unfold kv
    rw[hder,aC (by decide)]
    unfold Qy.run
    rw[eO]
    unfold Qy.run
    rw[dW]
   have e4:ng n=some n:=rfl
   obtain⟨fo2,se2,x2,rs2,er,h',hx⟩:=hr
   cases er
   have hfr:ja n se rs=some (se',rs'):=by
    unfold ij at e3
    split at e3
    ·cases hq:ja n se rs with
     |none=>rw[hq] at e3;cases e3
     |some q=>rw[hq] at e3;cases e3;rfl
    ·cases e3
   obtain⟨s1,s2⟩:=qW n se rs se' rs' hfr h.si
   subst s1
   rw[e1',aL]
   dsimp only
   rw[iD,iD,iD,iD,e2,aL]
   dsimp only
   rw[e4,aL,e3,aL,aI]
   dsimp only
   rw[aA hl]
   have hg3:FG ((L p).run O).1:=by rw[eq];exact⟨gL _,fun y hy=>(by cases hy)⟩
   refine⟨_,rfl,_,_,by rw[eq],?_,by rw[eq];exact hx,hg3⟩
   have h3:MI w.1.1 PS U O L (bC aF p ((L p).run O).1 fo) se' (da rs ((L p).run O).2):=h.put (by rw[eq];exact h') (by rw[eq];exact s2) hg3
   rw[eq] at h3 ⊢
   exact h3
theorem Jo{u:Ru}{l:List In}(hN:NB w.1.1)(hw:u.2.2.2.1.length≤aG)(hR:RK (cR w.1.1 u))(hL:LI w.1.1 PS u l)(hl:l.length=u.2.2.1.length)(ix:Ix)(d k:Int)(b:Bool)(m:DM)(z:Unit)(fo:FM)(se:SM)(rs:List Rd):
 nX u w ix d k b m z l fo se rs=some (Bl w.1.1 u l,w,ix,d,k,b,m,z,l,fo,se,rs):=by
 obtain⟨y,hy⟩:=S4 hN hw hR hL hl
 have e:Bl w.1.1 u l=y:=by unfold Bl;rw[hy (w0 w.1.1) rfl none 0 0 false none () [] [] []]
 rw[e]
 exact hy w rfl ix d k b m z fo se rs
theorem Hh{u:Ru}{l:List In}(hw:u.2.2.2.2.1.length≤aG)(hR:RK (cR w.1.1 u))(hL:LI w.1.1 PS u l)(hl:l.length=u.2.2.1.length)(hf:1≤(cL w.1.1 u.2.1).length)(hf2:(cL w.1.1 u.2.1).length≤1000)(p:Int)(hp:p∈PS)(h0:(0:Int)∈PS)(hc:∀t∈u.2.2.2.2.1,t.2.2.1.2.2.2.2.1∈PS):
 FV w.1.1 PS (kW w.1.1 u p l) u.2.1∧∀ix d k b m z fo se rs,nu u p l w ix d k b m z fo se rs=some (w,ix,d,k,b,m,z,fo,se,rs,kW w.1.1 u p l):=by
 obtain⟨x,hx,hy⟩:=Na hw hR hL hl hf hf2 p hp h0 hc
 have e:kW w.1.1 u p l=x:=by unfold kW;rw[hy (w0 w.1.1) rfl none 0 0 false none () [] [] []]
 rw[e]
 exact⟨hx,hy w rfl⟩
def CQ(w:bL)(PS:Zg)(U:List Pl)(ix:Ix)(m:DM)(d k:Int)(O:Pl→An)(L:Pl→Qy Rs)(b:Bool)(z:Unit)(u:Ru)(p:Int)(l:List In)(y:(Bool×List In)×List Rd)(rs:List Rd)(r:Bool×Ru×Int×bL×Ix×Int×Int×Bool×DM×Unit×FM×SM×List In×List Rd):Prop:=
 ∃fo se,r=(y.1.1,u,p,w,ix,d,k,b,m,z,fo,se,y.1.2,da rs y.2)∧MI w.1.1 PS U O L fo se (da rs y.2)∧(y.1.1=false→y.1.2=l)∧(y.1.1=true→LI w.1.1 PS u y.1.2∧y.1.2.length=u.2.2.1.length)
theorem Nh(X:MX w lo PS U ix m d k O L)(q0:Q0)(q1:Q1)(p:Pl)(b:Bool)(z:Unit){fo:FM}{se:SM}{rs:List Rd}(h:MI w.1.1 PS U O L fo se rs)(hP:p.2.1∈PS)(hm:aQ (.int .i64) .bool p.1 (bE m)=true)
 (hq:∀u∈w.1.1.2.2.2.1,u.2.1=p.1→∀fo se rs,MI w.1.1 PS U O L fo se rs→W (q1 (u,p.2.1,[],w,ix,d,k,b,m,z,fo,se,rs,())) (CQ w PS U ix m d k O L b z u p.2.1 [] ((dK L w.1.1 m u p.2.1 u.2.2.1.length []).run O) rs)):
 W (ur q0 q1 p w ix d k b m z fo se rs) (LP w PS U ix m d k O L b z p rs):=by
 have hB:=hB
 have hr:=X.wx.cg.sw.rules
 let Z:Nat→Rs×List Rd:=fun c=>(jA (fun u=>dK L w.1.1 m u p.2.1 u.2.2.1.length []) (fun u l=>kW w.1.1 u p.2.1 l) w.1.1.2.2.2.1 p.1 (w.1.1.2.2.2.1.length -c) c).run O
 have eZ:(L p).run O=Z 0:=by rw[X.fix p];unfold kv;rw[aA hm];rfl
 unfold ur
 refine bX.2 (W.ct (B:=fun r=>(Z 0).1=zR∧∃fo' se',r=(w,ix,d,k,b,m,z,fo',se',0,0,0,0,false,da rs (Z 0).2)∧MI w.1.1 PS U O L fo' se' (da rs (Z 0).2)) (Q:=LP w PS U ix m d k O L b z p rs) ?_ (fun r hr=>?_) fun r hr=>hr)
 ·refine W.mono (rz (L:=xu q0 q1) rfl (fun c(s:FM×SM×List Rd)(r:cH _ _)=>CT (fun r=>(Z c).1=zR∧∃fo' se',r=(w,ix,d,k,b,m,z,fo',se',0,0,0,0,false,da s.2.2 (Z c).2)∧MI w.1.1 PS U O L fo' se' (da s.2.2 (Z c).2)) (fun r=>∃fo' se',r=(w,ix,d,k,b,m,z,fo',se',(Z c).1,da s.2.2 (Z c).2)∧MI w.1.1 PS U O L fo' se' (da s.2.2 (Z c).2)∧FV w.1.1 PS (Z c).1.1 p.1∧FG (Z c).1) r) w.1.1.2.2.2.1.length (fun c(s:FM×SM×List Rd)=>(w.1.1.2.2.2.1,(w.1.1.2.2.2.1.length:Int),(c:Int),w,ix,d,k,b,m,z,s.1,s.2.1,p,0,0,0,0,false,s.2.2)) (fun _ s=>MI w.1.1 PS U O L s.1 s.2.1 s.2.2) ?step ?stop _ 0 (fo,se,rs) (by omega) (by omega) h) fun r hr=> ?fin
  case fin=>
   refine CT.mono (fun _ h=>h) (fun r h=>?_) r hr
   obtain⟨fo',se',rfl,h',hx,hg⟩:=h
   unfold LP
   rw[eZ]
   exact⟨fo',se',rfl,h',fun _=>hx,hg⟩
  case step=>
   rintro rec c ⟨fo,se,rs⟩ hc hI kk
   dsimp only at hI ⊢
   have hw2:=ld c (by omega)
   have hc1:(c:Int)<(w.1.1.2.2.2.1.length:Int):=by omega
   have hmm:=dO (t:=bZ) (l:=w.1.1.2.2.2.1) (dx c) hc1
   rw[cU hc1,eN c,aA hc1]
   have eq:Z c=(if(nth bZ w.1.1.2.2.2.1 (c:Int)).2.1=p.1 then(dK L w.1.1 m (nth bZ w.1.1.2.2.2.1 (c:Int)) p.2.1 (nth bZ w.1.1.2.2.2.1 (c:Int)).2.2.1.length []).bind fun y=>if y.1=true then .ret (kW w.1.1 (nth bZ w.1.1.2.2.2.1 (c:Int)) p.2.1 y.2,((c:Int),(y.2,(true,())))) else jA (fun u=>dK L w.1.1 m u p.2.1 u.2.2.1.length []) (fun u l=>kW w.1.1 u p.2.1 l) w.1.1.2.2.2.1 p.1 (w.1.1.2.2.2.1.length -(c+1)) (c+1) else jA (fun u=>dK L w.1.1 m u p.2.1 u.2.2.1.length []) (fun u l=>kW w.1.1 u p.2.1 l) w.1.1.2.2.2.1 p.1 (w.1.1.2.2.2.1.length -(c+1)) (c+1):Qy Rs).run O:=by
    show(jA _ _ _ _ _ _).run O=_
    rw[show w.1.1.2.2.2.1.length -c=(w.1.1.2.2.2.1.length -(c+1))+1 by omega]
    rfl
   rw[eq]
   generalize nth bZ w.1.1.2.2.2.1 (c:Int)=u at hmm ⊢
   by_cases hu:u.2.1=p.1
   ·rw[aC (show¬(!decide (u.2.1=p.1))=true by simp[hu]),aA hu,Qy.run_bind]
    obtain⟨r,er,fo',se',rfl,h',y0,y1⟩:=hq u hmm hu fo se rs hI
    have ea:tB q0 q1 u p.2.1 w ix d k b m z fo se rs=(if(!((dK L w.1.1 m u p.2.1 u.2.2.1.length []).run O).1.1)=true then(some (false,w,ix,d,k,b,m,z,fo',se',([]:List In),da rs ((dK L w.1.1 m u p.2.1 u.2.2.1.length []).run O).2)) else(some (true,w,ix,d,k,b,m,z,fo',se',((dK L w.1.1 m u p.2.1 u.2.2.1.length []).run O).1.2,da rs ((dK L w.1.1 m u p.2.1 u.2.2.1.length []).run O).2))):=by
     unfold tB;rw[er];rfl
    rw[ea]
    generalize (dK L w.1.1 m u p.2.1 u.2.2.1.length []).run O=y at h' y0 y1 ⊢
    obtain⟨⟨y,l⟩,t⟩:=y
    dsimp only at h' y0 y1 ⊢
    cases y with
    |
     false=>
     rw[aA (show(!false)=true from rfl),aL]
     dsimp only
     rw[aC (by decide),aC (by decide),hw2,ek]
     exact kk (fo',se',da rs t) h'
    |
     true=>
     obtain⟨hLI,hlen⟩:=y1 rfl
     have hR:=X.wx.cg.tg.rules u hmm
     have hf:=X.wx.cg.tg.fields _ (dO (t:=bR) (l:=w.1.1.2.2.1) hR.h0 hR.h1)
     have hs:=(X.wx.cg.sw.rl u hmm).2.2
     obtain⟨hx,hbu⟩:=Hh (w:=w) (by omega) hR hLI hlen hf (X.wx.fl _ hR.h0 hR.h1) p.2.1 hP X.wx.zero (X.wx.consts u hmm)
     rw[aC (show¬(!true)=true by decide),aL]
     dsimp only
     rw[aA rfl,aA rfl,hbu ix d k b m z fo' se',aL]
     unfold Qy.run
     rw[dW]
     refine⟨_,rfl,fo',se',rfl,h',hu▸hx,?_,fun y hy=>?_⟩
     ·show l.length≤3
      rw[hlen];exact hR.n3
     ·obtain⟨j,hj,rfl⟩:=jd hy
      have hj2:j<l.length:=hj
      have hF:FO (cR w.1.1 u) j:=hR.fo j (show j<u.2.2.1.length by omega)
      have:=(hLI.ok (j:Int) (dx j) (by omega)).1
      rw[dg (t:=bN) hj2] at this
      rw[this]
      exact X.wx.fl _ hF.s0 hF.s1
   ·rw[aA (show(!decide (u.2.1=p.1))=true by simp[hu]),aC hu,hw2]
    exact kk (fo,se,rs) hI
  case stop=>
   rintro rec ⟨fo,se,rs⟩ hI
   dsimp only at hI ⊢
   rw[gn (by omega)]
   have e:Z w.1.1.2.2.2.1.length=(zR,[]):=by
    show(jA _ _ _ _ (w.1.1.2.2.2.1.length -w.1.1.2.2.2.1.length) _).run O=_
    rw[Nat.sub_self];rfl
   rw[e]
   exact⟨_,rfl,rfl,fo,se,rfl,hI⟩
 ·obtain⟨e0,fo',se',rfl,h'⟩:=hr
  unfold LP
  rw[eZ,e0]
  exact⟨_,rfl,fo',se',rfl,h',fun h=>(by cases h),FG.zero⟩
variable{w:bL} {lo PS:Zg} {U:List Pl} {ix:Ix} {m:DM} {d k:Int} {O:Pl→An} {L:Pl→Qy Rs}
abbrev CH:Ru×Int×bL×Ix×Int×Int×Bool×DM×Unit×FM×SM×(List In)×(List Rd)→Option (Bool×Ru×Int×bL×Ix×Int×Int×Bool×DM×Unit×FM×SM×List In×List Rd):=fun x=>some (false,x.1,x.2.1,x.2.2.1,x.2.2.2.1,x.2.2.2.2.1,x.2.2.2.2.2.1,x.2.2.2.2.2.2.1,x.2.2.2.2.2.2.2.1,x.2.2.2.2.2.2.2.2.1,x.2.2.2.2.2.2.2.2.2.1,x.2.2.2.2.2.2.2.2.2.2.1,x.2.2.2.2.2.2.2.2.2.2.2.1,x.2.2.2.2.2.2.2.2.2.2.2.2)
theorem Ni(q0:Q0)(q1:Q1)(u:Ru)(p:Int)(l:List In)(b:Bool)(z:Unit)(fo:FM)(se:SM)(rs:List Rd)(hlt:l.length<u.2.2.1.length)
 (ho:(nth aO u.2.2.1 (l.length:Int)).2.2.2.1.2.2.1= -1∨(0≤(nth aO u.2.2.1 (l.length:Int)).2.2.2.1.2.2.1∧(nth aO u.2.2.1 (l.length:Int)).2.2.2.1.2.2.1<(l.length:Int)∧0≤(nth aO u.2.2.1 (l.length:Int)).2.2.2.1.2.2.2.1∧(nth aO u.2.2.1 (l.length:Int)).2.2.2.1.2.2.2.1<((nth bN l (nth aO u.2.2.1 (l.length:Int)).2.2.2.1.2.2.1).2.2.2.1.length:Int))):
 jt q0 q1 u p l w ix d k b m z fo se rs=aH (U:=Ru×Int×bL×Ix×Int×Int×Bool×DM×Unit×FM×SM×(List In)×(List Rd)) (nk q0 q1 (Int.toNat ((du m (nth aO u.2.2.1 (l.length:Int)).2.2.1:Nat):Int)+1) (qX u p l,((du m (nth aO u.2.2.1 (l.length:Int)).2.2.1:Nat):Int),0,u,p,w,ix,d,k,b,m,z,fo,se,nth aO u.2.2.1 (l.length:Int),l,rs)) CH:=by
 unfold jt qX du
 rw[aC (show¬decide ((l.length:Int)=(u.2.2.1.length:Int))=true by simp;omega),eN _,aA (show(l.length:Int)<(u.2.2.1.length:Int) by omega)]
 generalize nth aO u.2.2.1 (l.length:Int)=v at ho
 by_cases hv:v.2.2.2.1.2.2.1= -1
 ·rw[aC (show¬(!decide (v.2.2.2.1.2.2.1=(-1:Int)))=true by simp[hv]),aI,aA hv]
  dsimp only
  by_cases hm:aQ (.int .i64) .bool v.2.2.1 (bE m)=true
  ·rw[aA hm,aA hm,aI];rfl
  ·rw[aC hm,aC hm,aI];rfl
 ·obtain⟨a1,a2,a3,a4⟩:=ho.resolve_left hv
  rw[aA (show(!decide (v.2.2.2.1.2.2.1=(-1:Int)))=true by simpa using hv),aA a1,aA a2,aA a3,aA a4,aI,aC hv]
  dsimp only
  by_cases hm:aQ (.int .i64) .bool v.2.2.1 (bE m)=true
  ·rw[aA hm,aA hm,aI];rfl
  ·rw[aC hm,aC hm,aI];rfl
theorem Nj(X:MX w lo PS U ix m d k O L)(q0:Q0)(q1:Q1)(u:Ru)(hu:u∈w.1.1.2.2.2.1)(p:Int)(l:List In)(b:Bool)(z:Unit){fo:FM}{se:SM}{rs:List Rd}(h:MI w.1.1 PS U O L fo se rs)(hP:p∈PS)(hL:LI w.1.1 PS u l)
 (hq0:∀y:Pl,y∈U→y.2.1∈PS→l.length<u.2.2.1.length→y.1=(nth aO u.2.2.1 (l.length:Int)).2.2.1→∀fo se rs,MI w.1.1 PS U O L fo se rs→W (q0 (y,w,ix,d,k,b,m,z,fo,se,rs,())) (LP w PS U ix m d k O L b z y rs))
 (hq1:∀l',LI w.1.1 PS u l'→l'.length=l.length+1→∀fo se rs,MI w.1.1 PS U O L fo se rs→W (q1 (u,p,l',w,ix,d,k,b,m,z,fo,se,rs,())) (CQ w PS U ix m d k O L b z u p l' ((dK L w.1.1 m u p (u.2.2.1.length -l'.length) l').run O) rs)):
 W (jt q0 q1 u p l w ix d k b m z fo se rs) (CQ w PS U ix m d k O L b z u p l ((dK L w.1.1 m u p (u.2.2.1.length -l.length) l).run O) rs):=by
 have hB:=hB
 have hR:RK (cR w.1.1 u):=X.wx.cg.tg.rules u hu
 by_cases hl:l.length=u.2.2.1.length
 ·have hdl:decide ((l.length:Int)=(u.2.2.1.length:Int))=true:=cS (by omega)
  rw[show u.2.2.1.length -l.length=0 by omega]
  refine⟨(Bl w.1.1 u l,u,p,w,ix,d,k,b,m,z,fo,se,l,rs),?_,fo,se,rfl,h,fun _=>rfl,fun _=>⟨hL,hl⟩⟩
  unfold jt
  rw[aA hdl,Jo X.wx.cg.sw.nb (X.wx.cg.sw.rl u hu).2.1 hR hL hl];rfl
 ·have hll:=hL.len
  have hlt:l.length<u.2.2.1.length:=by omega
  have hn3:u.2.2.1.length≤3:=hR.n3
  have hF:FO (cR w.1.1 u) l.length:=hR.fo l.length hlt
  have hs0:0≤(nth aO u.2.2.1 (l.length:Int)).2.2.1:=hF.s0
  have hs1:(nth aO u.2.2.1 (l.length:Int)).2.2.1<(w.1.1.2.2.1.length:Int):=hF.s1
  have hpush:∀x:In,FV w.1.1 PS x (nth aO u.2.2.1 (l.length:Int)).2.2.1→LI w.1.1 PS u (l++[x]):=fun x hx=>hL.push hlt hx
  have ho:qX u p l∈PS∧((nth aO u.2.2.1 (l.length:Int)).2.2.2.1.2.2.1= -1∨(0≤(nth aO u.2.2.1 (l.length:Int)).2.2.2.1.2.2.1∧(nth aO u.2.2.1 (l.length:Int)).2.2.2.1.2.2.1<(l.length:Int)∧0≤(nth aO u.2.2.1 (l.length:Int)).2.2.2.1.2.2.2.1∧(nth aO u.2.2.1 (l.length:Int)).2.2.2.1.2.2.2.1<((nth bN l (nth aO u.2.2.1 (l.length:Int)).2.2.2.1.2.2.1).2.2.2.1.length:Int))):=by
   unfold qX
   by_cases hvar:(nth aO u.2.2.1 (l.length:Int)).2.2.2.1.2.2.1= -1
   ·rw[aA hvar];exact⟨hP,Or.inl hvar⟩
   ·rcases hF.of with h1|h1
    ·exact absurd h1 hvar
    ·obtain⟨a1,a2,a3,a4,a5⟩:=xw hL (jU _) h1
     rw[aC hvar]
     exact⟨a5,Or.inr ⟨a1,a2,a3,a4⟩⟩
  rw[Ni q0 q1 u p l b z fo se rs hlt ho.2]
  obtain⟨ho,_⟩:=ho
  rw[show u.2.2.1.length -l.length=(u.2.2.1.length -(l.length+1))+1 by omega]
  unfold dK
  have hn4:du m (nth aO u.2.2.1 (l.length:Int)).2.2.1≤4:=by unfold du;split<;>omega
  have hch:∀x:In,LI w.1.1 PS u (l++[x])→∀fo se rs,MI w.1.1 PS U O L fo se rs→W (q1 (u,p,l++[x],w,ix,d,k,b,m,z,fo,se,rs,())) (CQ w PS U ix m d k O L b z u p (l++[x]) ((dK L w.1.1 m u p (u.2.2.1.length -(l.length+1)) (l++[x])).run O) rs):=fun x hx fo se rs hI=>by
   have:=hq1 (l++[x]) hx (by rw[ep,db]) fo se rs hI
   rw[ep,db] at this
   exact this
  generalize dK L w.1.1 m u p (u.2.2.1.length -(l.length+1))=ch at hch ⊢
  generalize du m (nth aO u.2.2.1 (l.length:Int)).2.2.1=n at hn4 ⊢
  generalize qX u p l=o at ho ⊢
  generalize nth aO u.2.2.1 (l.length:Int)=v at hs0 hs1 hpush hq0 ⊢
  let Y:Nat→(Bool×List In)×List Rd:=fun c=>(jz L ch v.2.2.1 o l (n -c) c).run O
  show W _ (CQ w PS U ix m d k O L b z u p l (Y 0) rs)
  refine bX.2 (W.ct (W.mono (rz (L:=nk q0 q1) rfl (fun c(s:FM×SM×List Rd)(r:cH _ _)=>CT (fun r=>(Y c).1=(false,l)∧∃fo' se',r=(u,p,w,ix,d,k,b,m,z,fo',se',l,da s.2.2 (Y c).2)∧MI w.1.1 PS U O L fo' se' (da s.2.2 (Y c).2)) (fun r=>(Y c).1.1=true∧∃fo' se',r=(true,u,p,w,ix,d,k,b,m,z,fo',se',(Y c).1.2,da s.2.2 (Y c).2)∧MI w.1.1 PS U O L fo' se' (da s.2.2 (Y c).2)∧LI w.1.1 PS u (Y c).1.2∧(Y c).1.2.length=u.2.2.1.length) r) n (fun c(s:FM×SM×List Rd)=>(o,(n:Int),(c:Int),u,p,w,ix,d,k,b,m,z,s.1,s.2.1,v,l,s.2.2)) (fun _ s=>MI w.1.1 PS U O L s.1 s.2.1 s.2.2) ?step ?stop (Int.toNat (n:Int)+1) 0 (fo,se,rs) (by omega) (by omega) h) fun r hr=>hr) (fun r hr=>?_) fun r hr=>?_)
  case step=>
   rintro rec c ⟨fo,se,rs⟩ hc hI kk
   dsimp only at hI ⊢
   have hw2:=ld c (by omega)
   have hcn:decide ((c:Int)<(n:Int))=true:=cS (by omega)
   have hl48:∀x:In,(l.length+List.length [x])*48≤aG:=fun x=>by rw[db];omega
   have eY:Y c=((L (v.2.2.1,(o,((c:Int),())))).bind fun x=>if x.2.2.2.1=true then(ch (l++[x.1])).bind fun y=>if y.1=true then .ret y else jz L ch v.2.2.1 o l (n -(c+1)) (c+1) else jz L ch v.2.2.1 o l (n -(c+1)) (c+1):Qy (Bool×List In)).run O:=by
    show(jz _ _ _ _ _ _ _).run O=_
    rw[show n -c=(n -(c+1))+1 by omega]
    rfl
   rw[eY,Qy.run_bind,aA hcn]
   obtain⟨r,er,fo',se',rfl,h',hx,_⟩:=hq0 (v.2.2.1,(o,((c:Int),()))) (X.wx.pl _ _ _ hs0 hs1 ho (dx c) (by omega)) ho hlt rfl fo se rs hI
   rw[er,aL]
   dsimp only at h' hx ⊢
   generalize (L (v.2.2.1,(o,((c:Int),())))).run O=x at h' hx ⊢
   obtain⟨x,t⟩:=x
   dsimp only at h' hx ⊢
   cases hk:x.2.2.2.1 with
   |
    false=>
    rw[aC (by decide),aC (by decide),hw2,ek]
    exact kk (fo',se',da rs t) h'
   |
    true=>
    rw[aA rfl,aA (hl48 x.1),aA rfl,Qy.run_bind]
    obtain⟨r,er2,fo2,se2,rfl,h2,y0,y1⟩:=hch x.1 (hpush x.1 (hx hk)) fo' se' (da rs t) h'
    rw[er2,aL]
    generalize (ch (l++[x.1])).run O=y at h2 y0 y1 ⊢
    obtain⟨⟨y,l2⟩,t2⟩:=y
    dsimp only at h2 y0 y1 ⊢
    cases y with
    |
     true=>
     rw[aA rfl,aA rfl]
     unfold Qy.run
     rw[dW]
     rw[ek]
     exact⟨_,rfl,rfl,fo2,se2,rfl,h2,y1 rfl⟩
    |
     false=>
     have e:=y0 rfl
     subst e
     have e1:aZ (((l++[x.1]).length:Int) -(1:Int))=(l.length:Int):=by
      rw[ep,db]
      rw[fT (by omega) (by omega)]
      omega
     have e3:(l.length:Int)≤((l++[x.1]).length:Int):=by rw[ep,db];omega
     have ff:¬false=true:=by decide
     rw[aC ff,e1,eN _,aA e3,ew,Nat.sub_zero,List.take_left,hw2,aC ff,ek,ek]
     exact kk (fo2,se2,da (da rs t) t2) h2
  case stop=>
   rintro rec ⟨fo,se,rs⟩ hI
   dsimp only at hI ⊢
   rw[gn (by omega)]
   have e:Y n=((false,l),[]):=by
    show(jz _ _ _ _ _ (n -n) _).run O=_
    rw[Nat.sub_self];rfl
   rw[e]
   exact⟨_,rfl,rfl,fo,se,rfl,hI⟩
  ·obtain⟨e0,fo',se',rfl,h'⟩:=hr
   exact⟨_,rfl,fo',se',by rw[e0],h',fun _=>by rw[e0],fun h=>by rw[e0] at h;cases h⟩
  ·obtain⟨e0,fo',se',rfl,h',h2⟩:=hr
   exact⟨fo',se',by rw[e0],h',(fun h=>by rw[e0] at h;cases h),fun _=>h2⟩
theorem WT(X:MX w lo PS U ix m d k O L)(b:Bool)(z:Unit):∀n:Nat,
 (∀(p:Pl) fo se rs,MI w.1.1 PS U O L fo se rs→p∈U→p.2.1∈PS→5*(lo.idxOf p.1+1)≤n→W ((fe n).1 (p,w,ix,d,k,b,m,z,fo,se,rs,())) (LP w PS U ix m d k O L b z p rs))∧
 (∀u∈w.1.1.2.2.2.1,∀(q:Int) l fo se rs,MI w.1.1 PS U O L fo se rs→q∈PS→LI w.1.1 PS u l→5*lo.idxOf u.2.1+(u.2.2.1.length -l.length)+1≤n→W ((fe n).2 (u,q,l,w,ix,d,k,b,m,z,fo,se,rs,())) (CQ w PS U ix m d k O L b z u q l ((dK L w.1.1 m u q (u.2.2.1.length -l.length) l).run O) rs)):=by
 intro n
 induction n with
 |zero=>exact⟨fun p fo se rs _ _ _ h=>by omega,fun u _ q l fo se rs _ _ _ h=>by omega⟩
 |
  succ n ih=>
  refine⟨fun p fo se rs h hU hP hn=>?_,fun u hu q l fo se rs h hP hL hn=>?_⟩
  ·exact RZ X.my (fe n).1 (fe n).2 p (X.fix p) b z h hU hP fun hm=>Nh X _ _ p b z h hP hm fun u hu hup fo se rs h=>ih.2 u hu p.2.1 [] fo se rs h hP (LI.nil _ _ _) (by
    have hn3:u.2.2.1.length≤3:=(X.wx.cg.tg.rules u hu).n3
    rw[hup,lO]
    omega)
  ·exact Nj X (fe n).1 (fe n).2 u hu q l b z h hP hL (fun y hy hyP hlt hy1 fo se rs h=>ih.1 y fo se rs h hy hyP (by
    have hpre:=X.wx.cg.rk.pre u hu _ (dO (t:=aO) (l:=u.2.2.1) (dx l.length) (show(l.length:Int)<(u.2.2.1.length:Int) by omega))
    rw[←hy1] at hpre
    omega)) fun l' hL' hl' fo se rs h=>ih.2 u hu q l' fo se rs h hP hL' (by
    have:=hL'.len
    omega)
theorem Bn(X:MX w lo PS U ix m d k O L)(b:Bool)(z:Unit)(p:Pl){fo:FM}{se:SM}{rs:List Rd}(h:MI w.1.1 PS U O L fo se rs)(hU:p∈U)(hP:p.2.1∈PS):W (lG p w ix d k b m z fo se rs) (LP w PS U ix m d k O L b z p rs):=by
 have hl:=X.wx.cg.rk.len
 have hm:=X.wx.cg.tg.many
 have hi:lo.idxOf p.1≤lo.length:=List.idxOf_le_length
 exact(WT X b z eP).1 p fo se rs h hU hP (by show _≤18446744073709551616;omega)
theorem Bo(X:MY w PS U ix d k O)(b:Bool)(z:Unit)(p:Pl)(hf:L p=kv w.1.1 m L p)(hm:¬aQ (.int .i64) .bool p.1 (bE m)=true){fo:FM}{se:SM}{rs:List Rd}(h:MI w.1.1 PS U O L fo se rs)(hU:p∈U)(hP:p.2.1∈PS):W (lG p w ix d k b m z fo se rs) (LP w PS U ix m d k O L b z p rs):=by
 have key:∀n,W ((fe (n+1)).1 (p,w,ix,d,k,b,m,z,fo,se,rs,())) (LP w PS U ix m d k O L b z p rs):=fun n=>RZ X (fe n).1 (fe n).2 p hf b z h hU hP fun h=>absurd h hm
 exact key 18446744073709551615
theorem Bp(X:MY w PS U ix d k O)(b:Bool)(z:Unit)(p:Pl){fo:FM}{se:SM}{rs:List Rd}(h:MI w.1.1 PS U O L fo se rs)(hU:p∈U)(hP:p.2.1∈PS)(ho:W (lG p w ix d k b m z fo se rs) (LP w PS U ix m d k O L b z p rs)):W (d6 p w ix d k b m z fo se rs) (LP w PS U ix m d k O L b z p rs):=by
 suffices hW:∃r,d6 p w ix d k b m z fo se rs=some r by
  obtain⟨r,er⟩:=hW
  obtain⟨r',er',hr⟩:=ho
  rw[I2 er] at er'
  cases er'
  exact⟨r,er,hr⟩
 have ho:=ho.imp fun r h=>h.1
 unfold d6
 cases hp:cC aF p fo with
 |true=>rw[aA rfl];exact ho
 |
  false=>
  rw[aC (by decide)]
  split
  ·rw[RS];exact ho
  ·obtain⟨M,y,x,n,se',rs',e1,e2,e3,hl,_⟩:=RU X.wy p d k b m z h.fi hp hU hP
   have e4:ng n=some n:=rfl
   rw[e1,aL]
   dsimp only
   rw[e2,aL]
   dsimp only
   rw[e4,aL,e3,aL]
   dsimp only
   rw[aA hl]
   exact⟨_,rfl⟩
abbrev Ky:=cF
abbrev Fa:=fq
abbrev gS(a p i:Int)(c:Nat):Ky:=(a,(p,(aZ ((aZ ((16:Int)*i))+(c:Int)),())))
abbrev ky(a p i d:Int)(c:Nat):Rd:=(gS a p i c,(d,(aZ (d+(1:Int)),())))
def sg(d:Int)(r:Rd):Rd:=(r.1,(d,(aZ (d+(1:Int)),())))
def Hi(s:cM)(a:Int):Bool:=(Ja s a).getD false
def wY(p i:Int):Bool:=(Bf p i).getD false
def Jp(s:cM)(a c x:Int):Bool:=(Hc s a c x).getD false
def zI:In:=(0,(0,(0,([],()))))
def n8(s:cM)(V:Ky→Int×Bool)(a p i d:Int):Nat→Nat→List Int→List Rd→An
 |0,_,t,rs=>(true,(a,(p,(i,(t,())))),rs)
 |n+1,c,t,rs=>if((V (gS a p i c)).2&&Jp s a c (V (gS a p i c)).1)=true then n8 s V a p i d n (c+1) (t++[(V (gS a p i c)).1]) (rs++[ky a p i d c]) else(false,zI,rs++[ky a p i d c])
def pD(s:cM)(V:Ky→Int×Bool)(a p i d:Int):An:=
 if Hi s a=true∧wY p i=true∧0≤d∧d<1024 then n8 s V a p i d ((cL s a).length -1) 1 [p] [] else(false,zI,[])
theorem uw{s:cM}{V:Ky→Int×Bool}{a p i d:Int}:∀(n c:Nat)(t:Zg)(rs:List Rd),(∀r∈rs,r∈(n8 s V a p i d n c t rs).2.2)∧∀r∈(n8 s V a p i d n c t rs).2.2,r∈rs∨∃e,c≤e∧e<c+n∧r=ky a p i d e
 |0,_,_,_=>⟨fun _ h=>h,fun _ h=>Or.inl h⟩
 |
  n+1,c,t,rs=>by
  unfold n8
  have hl:∀r∈rs++[ky a p i d c],r∈rs∨∃e,c≤e∧e<c+(n+1)∧r=ky a p i d e:=fun r hr=>(List.mem_append.1 hr).imp id fun h=>⟨c,dc _,by omega,List.mem_singleton.1 h⟩
  split
  ·obtain⟨h1,h2⟩:=uw (s:=s) (V:=V) (a:=a) (p:=p) (i:=i) (d:=d) n (c+1) (t++[(V (gS a p i c)).1]) (rs++[ky a p i d c])
   exact⟨fun r hr=>h1 r (iP _ hr),fun r hr=>(h2 r hr).elim (hl r) fun⟨e,e1,e2,e3⟩=>Or.inr ⟨e,by omega,by omega,e3⟩⟩
  ·exact⟨fun r hr=>iP _ hr,hl⟩
theorem Bq{s:cM}{V V':Ky→Int×Bool}{a p i d d':Int}:∀(n c:Nat)(t:Zg)(rs:List Rd),(∀r∈(n8 s V a p i d n c t rs).2.2,V' r.1=V r.1)→n8 s V' a p i d' n c t (rs.map (sg d'))=((n8 s V a p i d n c t rs).1,(n8 s V a p i d n c t rs).2.1,(n8 s V a p i d n c t rs).2.2.map (sg d'))
 |0,_,_,_,_=>rfl
 |
  n+1,c,t,rs,h=>by
  have hm:ky a p i d c∈(n8 s V a p i d (n+1) c t rs).2.2:=by
   unfold n8
   split
   ·exact(uw n (c+1) _ _).1 _ (jc _ (List.mem_singleton.2 rfl))
   ·exact jc _ (List.mem_singleton.2 rfl)
  have e:V' (gS a p i c)=V (gS a p i c):=h _ hm
  have em:rs.map (sg d')++[ky a p i d' c]=(rs++[ky a p i d c]).map (sg d'):=by rw[oq];rfl
  unfold n8 at h ⊢
  rw[e,em]
  split
  ·rename_i hc
   rw[aA hc] at h
   exact Bq n (c+1) _ _ h
  ·rfl
theorem Br{s:cM}{V:Ky→Int×Bool}{a p i d:Int}{r:Rd}(h:r∈(pD s V a p i d).2.2):(∃c,c<(cL s a).length∧r=ky a p i d c)∧Hi s a=true∧wY p i=true∧0≤d∧d<1024:=by
 unfold pD at h
 split at h
 ·rename_i hc
  refine⟨?_,hc⟩
  rcases(uw _ _ _ _).2 r h with h|⟨e,e1,e2,e3⟩
  ·cases h
  ·exact⟨e,by omega,e3⟩
 ·cases h
theorem ux{s:cM}{V V':Ky→Int×Bool}{a p i d d':Int}(hd:0≤d∧d<1024↔0≤d'∧d'<1024)(h:∀r∈(pD s V a p i d).2.2,V' r.1=V r.1):pD s V' a p i d'=((pD s V a p i d).1,(pD s V a p i d).2.1,(pD s V a p i d).2.2.map (sg d')):=by
 unfold pD at h ⊢
 by_cases hc:Hi s a=true∧wY p i=true∧0≤d∧d<1024
 ·rw[aA hc] at h ⊢
  rw[aA ⟨hc.1,hc.2.1,hd.1 hc.2.2⟩]
  exact Bq _ _ _ [] h
 ·rw[aC hc,aC fun hc'=>hc ⟨hc'.1,hc'.2.1,hd.2 hc'.2.2⟩]
  rfl
theorem Bs{s:cM}{V:Ky→Int×Bool}{a p i d:Int}:(pD s V a p i d).2.2.map (sg d)=(pD s V a p i d).2.2:=by
 have h:=ux (s:=s) (V:=V) (V':=V) (a:=a) (p:=p) (i:=i) Iff.rfl (d:=d) fun _ _=>rfl
 exact(congrArg (fun x:An=>x.2.2) h).symm
theorem Hj(v:bL)(s:cM)(hN:NB s)(hl:v.2.1.length≤aG)(c:Nat)(a p i d k:Int)(rs:List Rd)(hr:(rs.length+1)*40≤aG):
 nP (c:Int) a p i d v k s rs=some ((jS v.2.1 (gS a p i c) d k).1,((jS v.2.1 (gS a p i c) d k).2&&Jp s a c (jS v.2.1 (gS a p i c) d k).1),a,p,i,d,v,k,s,rs++[ky a p i d c]):=by
 have e:uU v.2.1 (a,(p,(aZ ((aZ ((16:Int)*i))+(c:Int)),()))) d k=some (jS v.2.1 (gS a p i c) d k):=aA hl
 unfold nP M6
 rw[aL,aA (by rw[db];exact hr),e,aL]
 generalize jS v.2.1 (gS a p i c) d k=r
 obtain⟨x,b⟩:=r
 dsimp only
 cases b with
 |false=>rfl
 |
  true=>
  obtain⟨q,hq⟩:=sf s hN a (c:Int) x
  unfold Jp
  rw[aA rfl,hq]
  rfl
theorem Fs(p i:Int):Bf p i=some (wY p i)∧(wY p i=true→0≤i∧i<4):=by
 have hs:∃z,Bf p i=some z∧(z=true→0≤i∧i<4):=by
  unfold Bf
  have no:∀y:Zo,y=some false→∃z,y=some z∧(z=true→0≤i∧i<4):=fun y hy=>⟨false,hy,fun h=>(by cases h)⟩
  by_cases i0:0≤i
  ·by_cases i1:i<4
   ·have yes:∀y:Zo,(∃z,y=some z)→∃z,y=some z∧(z=true→0≤i∧i<4):=fun y ⟨z,hz⟩=>⟨z,hz,fun _=>⟨i0,i1⟩⟩
    apply yes
    refine fu ?_ fun v=>⟨v,rfl⟩
    repeat' (first|exact⟨_,rfl⟩|split)
   ·rw[cS i0,dz i1]
    apply no
    split
    ·split<;>rfl
    ·rfl
  ·rw[dz i0]
   apply no
   split
   ·split<;>rfl
   ·rfl
 obtain⟨z,e,h⟩:=hs
 have e2:wY p i=z:=by unfold wY;rw[e];rfl
 rw[e2]
 exact⟨e,h⟩
theorem Nk(v:bL)(hN:NB v.1.1)(hR:v.1.1.2.2.2.1.length≤aG)(hF:∀a,0≤a→a<(v.1.1.2.2.1.length:Int)→(cL v.1.1 a).length≤1000)(hl:v.2.1.length≤aG)(a p i d k:Int):
 Em v a p i d k=some (pD v.1.1 (fun q=>jS v.2.1 q d k) a p i d):=by
 have hB:=hB
 suffices hW:W (Em v a p i d k) fun r=>r=pD v.1.1 (fun q=>jS v.2.1 q d k) a p i d by
  obtain⟨r,e,rfl⟩:=hW
  exact e
 obtain⟨b,e,hb⟩:=ml v.1.1 hR a
 have eb:Hi v.1.1 a=b:=by unfold Hi;rw[e];rfl
 obtain⟨hz,_⟩:=Fs p i
 unfold Em pD
 rw[e,aL,eb]
 cases b with
 |false=>exact⟨_,rfl,(aC fun h=>(by cases h.1)).symm⟩
 |
  true=>
  obtain⟨a0,a1,a2⟩:=hb rfl
  rw[aC (by decide),hz,aL]
  cases wY p i with
  |false=>exact⟨_,rfl,(aC fun h=>(by cases h.2.1)).symm⟩
  |
   true=>
   rw[aC (by decide)]
   by_cases d0:d<0
   ·rw[cU d0];exact⟨_,rfl,(aC fun h=>by omega).symm⟩
   ·rw[aC (show¬decide (d<(0:Int))=true by simpa using d0)]
    by_cases d1:(1024:Int)≤d
    ·rw[cS d1];exact⟨_,rfl,(aC fun h=>by omega).symm⟩
    ·rw[dz d1,aL,aC (by decide),aI,aA ⟨rfl,rfl,by omega,by omega⟩]
     dsimp only
     have hFa:=hF a a0 a1
     have e:(nth bR v.1.1.2.2.1 a).2.2.2.2.1=cL v.1.1 a:=rfl
     let Y:Nat→List Int→List Rd→An:=fun c t s=>n8 v.1.1 (fun q=>jS v.2.1 q d k) a p i d ((cL v.1.1 a).length -c) c t s
     refine bX.2 (W.ct (W.mono (rz (L:=El) rfl (fun c(u:List Int×List Rd)(r:cH _ _)=>CT (fun r=>∃t s,r=(a,p,i,0,0,0,t,s)∧Y c u.1 u.2=(true,(a,(p,(i,(t,())))),s)) (fun r=>r=Y c u.1 u.2) r) (cL v.1.1 a).length (fun c(u:List Int×List Rd)=>((c:Int),v,a,p,i,d,k,0,0,0,v.1.1,u.1,u.2)) (fun c u=>u.1.length≤c∧u.2.length≤c) ?step ?stop eP 1 ([p],[]) (by show _<18446744073709551616;omega) (by omega) ⟨dc _,gL _⟩) fun r hr=>hr) (fun r hr=>?_) fun r hr=>hr)
     case step=>
      rintro rec c ⟨t,s⟩ hc ⟨ht,hs⟩ kk
      dsimp only at ht hs ⊢
      have hw2:=ld c (by omega)
      rw[e,aA a0,aA a1,cU (by omega),Hj v v.1.1 hN hl c a p i d k s (by omega),aL]
      have eY:Y c t s=if((jS v.2.1 (gS a p i c) d k).2&&Jp v.1.1 a c (jS v.2.1 (gS a p i c) d k).1)=true then Y (c+1) (t++[(jS v.2.1 (gS a p i c) d k).1]) (s++[ky a p i d c]) else(false,zI,s++[ky a p i d c]):=by
       show n8 _ _ _ _ _ _ _ _ _ _=_
       rw[show(cL v.1.1 a).length -c=((cL v.1.1 a).length -(c+1))+1 by omega]
       rfl
      rw[eY]
      dsimp only
      cases(jS v.2.1 (gS a p i c) d k).2&&Jp v.1.1 a c (jS v.2.1 (gS a p i c) d k).1 with
      |false=>exact⟨_,rfl,rfl⟩
      |
       true=>
       rw[aC (by decide),aA rfl,aA (show(t.length+List.length [_])*8≤aG by rw[db];omega),hw2]
       exact kk (_,_) ⟨by rw[ep,db];omega,by rw[ep,db];omega⟩
     case stop=>
      rintro rec ⟨t,s⟩ _
      dsimp only
      rw[e,aA a0,aA a1,gn (by omega)]
      refine⟨_,rfl,t,s,rfl,?_⟩
      show n8 _ _ _ _ _ _ (_ -_) _ _ _=_
      rw[Nat.sub_self]
      rfl
     ·obtain⟨t,s,rfl,h⟩:=hr
      exact⟨_,rfl,h.symm⟩
theorem Bt{β:Type}{g:Nat→List β}:∀n:Nat,(∀c<n,g c= [])→(List.range n).flatMap g= []
 |0,_=>rfl
 |
  n+1,h=>by
  rw[List.range_succ,List.flatMap_append,Bt n fun c hc=>h c (by omega),List.flatMap_cons,List.flatMap_nil,h n (by omega)]
  rfl
theorem Bu{β:Type}{g:Nat→List β}{c:Nat}:∀n:Nat,c<n→(∀x<n,x≠c→g x= [])→(List.range n).flatMap g=g c
 |0,h,_=>by omega
 |
  n+1,h,hx=>by
  rw[List.range_succ,List.flatMap_append,List.flatMap_cons,List.flatMap_nil,dW]
  by_cases e:c=n
  ·subst e
   rw[Bt _ fun x hx'=>hx x (by omega) (by omega),oo]
  ·rw[Bu n (by omega) fun x hx'=>hx x (by omega),hx n (by omega) (by omega),dW]
def qY(s:cM)(l:List Fa)(p:Pl):List Fa:=if 0≤p.1∧p.1<(s.2.2.1.length:Int) then(List.range (cL s p.1).length).flatMap fun(c:Nat)=>eW (gS p.1 p.2.1 p.2.2.1 c) l else[]
theorem Hk(s:cM)(l:List Fa)(ix:List (Ky×List Fa))(h:∀key,aQ aF (.slice 64 aW) key ix=eW key l)(p:Pl):iu s (some ix) p=qY s l p:=by
 have e:(fun(c:Nat)=>aQ aF (.slice 64 aW) (p.1,(p.2.1,(aZ ((aZ ((16:Int)*p.2.2.1))+(c:Int)),()))) (bE (some ix)))=fun(c:Nat)=>eW (gS p.1 p.2.1 p.2.2.1 c) l:=funext fun c=>h _
 unfold iu qY
 rw[e]
theorem Jq{a p i:Int}(i0:0≤i)(i1:i<4){c e:Nat}(hc:c≤1000)(he:e≤1000)(h:gS a p i c=gS a p i e):c=e:=by
 have h1:aZ ((aZ ((16:Int)*i))+(c:Int))=aZ ((aZ ((16:Int)*i))+(e:Int)):=congrArg (fun k:Ky=>k.2.2.1) h
 rw[fT (x:=(16:Int)*i) (by omega) (by omega),fT (by omega) (by omega),fT (by omega) (by omega)] at h1
 omega
theorem Jr(s:cM)(l:List Fa){a p i:Int}(a0:0≤a)(a1:a<(s.2.2.1.length:Int))(hF:(cL s a).length≤1000)(i0:0≤i)(i1:i<4){c:Nat}(hc:c<(cL s a).length)(d k:Int):
 jS (qY s l (a,(p,(i,())))) (gS a p i c) d k=jS l (gS a p i c) d k:=by
 have e:(qY s l (a,(p,(i,())))).filter (dF (gS a p i c) k)=l.filter (dF (gS a p i c) k):=by
  have e1:qY s l (a,(p,(i,())))=(List.range (cL s a).length).flatMap fun(c:Nat)=>eW (gS a p i c) l:=aA ⟨a0,a1⟩
  rw[e1,List.filter_flatMap]
  rw[Bu (c:=c) _ hc fun x hx hne=>?_]
  ·unfold eW
   rw[List.filter_filter]
   refine List.filter_congr fun x _=>?_
   unfold dF
   cases bD aF x.1 (gS a p i c)<;>simp
  ·unfold eW
   rw[List.filter_filter]
   refine List.filter_eq_nil_iff.2 fun y _=>?_
   intro h
   have h:=Bool.and_eq_true_iff.1 h
   have h1:=(Bool.and_eq_true_iff.1 h.1).1
   have q1:=(fy aF y.1 (gS a p i c)).1 h1
   have q2:=(fy aF y.1 (gS a p i x)).1 h.2
   exact hne (Jq i0 i1 (by omega) (by omega) (q2.symm.trans q1))
 unfold jS iz
 rw[e]
def Oa(w:bL)(d k:Int)(p:Pl):An:=pD w.1.1 (fun q=>jS w.2.1 q d k) p.1 p.2.1 p.2.2.1 d
theorem MYo{w:bL}{PS:Zg}{U:List Pl}{ix:List (Ky×List Fa)}(hw:WY w PS U (some ix))(_hf:w.2.1.length≤1000)(h:∀key,aQ aF (.slice 64 aW) key ix=eW key w.2.1)(d k:Int):MY w PS U (some ix) d k (Oa w d k):=by
 have hB:=hB
 refine⟨hw,fun p hP=>?_⟩
 have hpl:(iu w.1.1 (some ix) p).length≤aG:=by
  obtain⟨L,e,hL,_⟩:=Bj hw p d k true none () [] [] []
  rw[Fl hw p d k true none () [] [] []] at e
  have e:=iR e
  simp only[gU,true_and,and_true] at e
  rw[e]
  omega
 rw[Nk (w.1,(iu w.1.1 (some ix) p,())) hw.sw.nb hw.sw.rules hw.fl hpl,Hk w.1.1 w.2.1 ix h]
 unfold Oa
 rw[ux (d':=d) Iff.rfl (V:=fun q=>jS w.2.1 q d k) (V':=fun q=>jS (qY w.1.1 w.2.1 p) q d k) fun r hr=>?_,Bs]
 obtain⟨⟨c,hc,rfl⟩,h1,h2,_⟩:=Br hr
 obtain⟨b,eb,hb⟩:=ml w.1.1 hw.sw.rules p.1
 have h1:b=true:=by unfold Hi at h1;rw[eb] at h1;exact h1
 obtain⟨a0,a1,_⟩:=hb h1
 obtain⟨i0,i1⟩:=(Fs _ _).2 h2
 exact Jr w.1.1 w.2.1 (p:=p.2.1) a0 a1 (hw.fl _ a0 a1) i0 i1 hc d k
theorem MXo{w:bL}{lo PS:Zg}{U:List Pl}{ix:List (Ky×List Fa)}(hw:WX w lo PS U (some ix))(hf:w.2.1.length≤1000)(h:∀key,aQ aF (.slice 64 aW) key ix=eW key w.2.1)(m:DM)(d k:Int):MX w lo PS U (some ix) m d k (Oa w d k) (LQ w.1.1 m lo):=⟨hw,MYo hw.y hf h d k,Jn hw.cg.rk.pre m⟩
theorem Nl{w:bL}{α:Type}(x:Qy α)(d k k':Int)(h:∀r∈(x.run (Oa w d k)).2,r.2.1=d→0≤d→d<1024→r.2.2.1=aZ (d+(1:Int))→jS w.2.1 r.1 d k'=jS w.2.1 r.1 d k):x.run (Oa w d k')=x.run (Oa w d k):=by
 have:=Qy.two (O:=Oa w d k) (O':=Oa w d k') (G:=fun r=>r.2.1=d→0≤d→d<1024→r.2.2.1=aZ (d+(1:Int))→jS w.2.1 r.1 d k'=jS w.2.1 r.1 d k) (σ:=id) (fun p hG=>?_) x h
 ·rw[this,List.map_id]
 ·unfold Oa at hG ⊢
  rw[ux (d':=d) Iff.rfl (V:=fun q=>jS w.2.1 q d k) (V':=fun q=>jS w.2.1 q d k') fun r hr=>?_,Bs,List.map_id]
  obtain⟨⟨c,_,rfl⟩,_,_,d0,d1⟩:=Br hr
  exact hG _ hr rfl d0 d1 rfl
variable{w:bL} {lo PS:Zg} {U:List Pl} {ix:Ix} {m:DM} {d k:Int} {O:Pl→An} {L:Pl→Qy Rs}
def Hl(b:Bool)(m:DM)(a p d:Int):Bool:=b&&(aQ (.int .i64) .bool a (bE m)&&(decide ((0:Int)≤p)&&(decide (p<(4096:Int))&&(decide ((0:Int)≤d)&&decide (d<(1024:Int))))))
theorem Js(a p:Int)(w:bL)(ix:Ix)(d k:Int)(b:Bool)(m:DM)(z:Unit)(fo:FM)(se:SM)(rs:List Rd):
 um a p w ix d k b m z fo se rs=some (Hl b m a p d,w,ix,d,k,b,m,z,fo,se,rs):=by
 unfold um Hl
 cases b<;>cases aQ (.int .i64) .bool a (bE m)<;>cases decide ((0:Int)≤p)<;>cases decide (p<(4096:Int))<;>cases decide ((0:Int)≤d)<;>cases decide (d<(1024:Int))<;>rfl
def wV(b:Bool)(m:DM)(a p d i:Int):Bool:= !aQ (.int .i64) .bool a (bE m)||(decide (i=0)&&Hl b m a p d)
def Ri(O:Pl→An)(L:Pl→Qy Rs)(b:Bool)(m:DM)(a p d i:Int):List Rd:=if wV b m a p d i=true then((L (a,(p,(i,())))).run O).2 else[]
def Fv(O:Pl→An)(L:Pl→Qy Rs)(b:Bool)(m:DM)(a p d i:Int):Bool×In:=if wV b m a p d i=true then(((L (a,(p,(i,())))).run O).1.2.2.2.1,((L (a,(p,(i,())))).run O).1.1) else(false,zI)
def Uu(w:bL)(p a:Int):List Pl:=((List.range 4).map fun(j:Nat)=>(a,(p,((j:Int),()))))++Uo w p (a,(p,((0:Int),())))
theorem Df{w:bL}(p a:Int)(hT:FT w.1.1)(hf:w.2.1.length≤60):(Uu w p a).length≤2200:=by
 have:=Ji p (a,(p,((0:Int),()))) hT hf
 unfold Uu
 rw[ep,im,List.length_range]
 omega
theorem WXu{w:bL}{lo:Zg}(hc:CG w.1.1 lo)(hT:FT w.1.1)(hf:w.2.1.length≤60)(p a:Int){ix:Ix}(hix:IX (A7 w p) ix):WX w lo (A7 w p) (Uu w p a) ix:=
 {WXo hc hT hf p (a,(p,((0:Int),()))) hix with
  pl:=fun b q i h0 h1 h2 h3 h4=>jc _ ((WXo hc hT hf p (a,(p,((0:Int),()))) hix).pl b q i h0 h1 h2 h3 h4)
  len:=cI (Df p a hT hf) (by decide)}
theorem WYu{w:bL}(hs:SA w.1.1)(hT:FT w.1.1)(hf:w.2.1.length≤60)(p a:Int){ix:Ix}(hix:IX (A7 w p) ix):WY w (A7 w p) (Uu w p a) ix:=
 ⟨hs.sw,cI (Df p a hT hf) (by decide),fun a a0 a1=>cI (hT.fields _ (dO (t:=bR) (l:=w.1.1.2.2.1) a0 a1)) (by decide),hix⟩
theorem IXo{w:bL}(hf:w.2.1.length≤60)(p:Int){ix:List (Ky×List Fa)}(h:∀key,aQ aF (.slice 64 aW) key ix=eW key w.2.1):IX (A7 w p) (some ix):=fun key=>by
 have e:aQ aF (.slice 64 aW) key (bE (some ix))=eW key w.2.1:=h key
 have hle:(eW key w.2.1).length≤w.2.1.length:=uD ..
 rw[e]
 exact⟨by omega,fun f hf=>d7 _ (d7 _ (iP _ (List.mem_map.2 ⟨f,(List.mem_filter.1 hf).1,rfl⟩)))⟩
abbrev dM(w:bL):DM:=some (wX w.1.1.2.2.2.1)
def LL(w:bL)(lo:Zg)(r:Int):Pl→Qy Rs:=if r=0 then LQ w.1.1 (dM w) lo else kv w.1.1 (dM w) fun _=>.ret zR
theorem Jt{w:bL}(hs:SA w.1.1)(hT:FT w.1.1)(hf:w.2.1.length≤60){lo:Zg}{r:Int}(hcg:r=0→CG w.1.1 lo)(a0 a p:Int){ix:List (Ky×List Fa)}(h:∀key,aQ aF (.slice 64 aW) key ix=eW key w.2.1)(d k:Int)(z:Unit){i:Int}(hU:(a,(p,(i,())))∈Uu w p a0)(hl:wV (decide (r=0)) (dM w) a p d i=true)(fo:FM)(se:SM)(rs:List Rd)(hI:MI w.1.1 (A7 w p) (Uu w p a0) (Oa w d k) (LL w lo r) fo se rs):
 W (d6 (a,(p,(i,()))) w (some ix) d k (decide (r=0)) (dM w) z fo se rs) (LP w (A7 w p) (Uu w p a0) (some ix) (dM w) d k (Oa w d k) (LL w lo r) (decide (r=0)) z (a,(p,(i,()))) rs):=by
 have hP:p∈A7 w p:=d7 _ (dE ..)
 have hix:=IXo hf p h
 have Y:=MYo (WYu hs hT hf p a0 hix) (by omega) h d k
 refine Bp Y _ z _ hI hU hP ?_
 by_cases hm:aQ (.int .i64) .bool a (bE (dM w))=true
 ·have hr:r=0:=by
   refine Classical.byContradiction fun hr=>?_
   unfold wV Hl at hl
   rw[hm,dz hr] at hl
   simp at hl
  have X:=MXo (WXu (hcg hr) hT hf p a0 hix) (by omega) h (dM w) d k
  have e:LL w lo r=LQ w.1.1 (dM w) lo:=aA hr
  rw[e] at hI ⊢
  exact Bn X _ z _ hI hU hP
 ·refine Bo Y _ z _ ?_ hm hI hU hP
  unfold LL
  by_cases hr:r=0
  ·rw[aA hr];exact Jn (hcg hr).rk.pre _ _
  ·rw[aC hr]
   unfold kv
   rw[aC hm,aC hm]
variable{w:bL} {lo PS:Zg} {U:List Pl} {ix:Ix} {m:DM} {d k:Int} {O:Pl→An} {L:Pl→Qy Rs}
theorem S9(a p i:Int)(b:Bool)(z:Unit){fo:FM}{se:SM}{rs:List Rd}(h:MI w.1.1 PS U O L fo se rs)
 (hk:wV b m a p d i=true→W (d6 (a,(p,(i,()))) w ix d k b m z fo se rs) (LP w PS U ix m d k O L b z (a,(p,(i,()))) rs)):
 W (zD a p i w ix d k b m z fo se rs) fun r=>∃fo' se',r=((Fv O L b m a p d i).1,w,ix,d,k,b,m,z,fo',se',(Fv O L b m a p d i).2,da rs (Ri O L b m a p d i))∧MI w.1.1 PS U O L fo' se' (da rs (Ri O L b m a p d i))∧((Fv O L b m a p d i).1=true→FV w.1.1 PS (Fv O L b m a p d i).2 a):=by
 unfold zD Ri Fv
 have go:wV b m a p d i=true→W (Option.bind (d6 (a,(p,(i,()))) w ix d k b m z fo se rs) fun⟨z,aa,ab,ac,ad,ae,af,ag,ah,y,ai⟩=>some (y.2.2.2.1,z,aa,ab,ac,ad,ae,af,ag,ah,y.1,ai)) fun r=>∃fo' se',r=(((L (a,(p,(i,())))).run O).1.2.2.2.1,w,ix,d,k,b,m,z,fo',se',((L (a,(p,(i,())))).run O).1.1,da rs ((L (a,(p,(i,())))).run O).2)∧MI w.1.1 PS U O L fo' se' (da rs ((L (a,(p,(i,())))).run O).2)∧(((L (a,(p,(i,())))).run O).1.2.2.2.1=true→FV w.1.1 PS ((L (a,(p,(i,())))).run O).1.1 a):=fun hl=>by
  refine oO.2 ((hk hl).mono fun r hr=>?_)
  obtain⟨fo',se',rfl,h',hx,_⟩:=hr
  exact⟨_,rfl,fo',se',rfl,h',hx⟩
 cases hm:aQ (.int .i64) .bool a (bE m) with
 |
  false=>
  have hl:wV b m a p d i=true:=by unfold wV;rw[hm];rfl
  rw[aC (by decide),aI,aA hl,aA hl]
  exact go hl
 |
  true=>
  rw[aA rfl]
  by_cases hi:i=0
  ·rw[aC (show¬(!decide (i=(0:Int)))=true by simp[hi]),Js,aL]
   dsimp only
   have hl:wV b m a p d i=Hl b m a p d:=by unfold wV;rw[hm,cS hi];rfl
   rw[hl] at go ⊢
   cases hb:Hl b m a p d with
   |
    false=>
    rw[aA (show(!false)=true from rfl),aC (by decide),aC (by decide)]
    exact⟨_,rfl,fo,se,rfl,h,fun h=>(by cases h)⟩
   |
    true=>
    rw[aC (show¬(!true)=true by decide),aI,aA rfl,aA rfl]
    exact go hb
  ·have hl:wV b m a p d i=false:=by unfold wV;rw[hm,dz hi];rfl
   rw[aA (show(!decide (i=(0:Int)))=true by simp[hi]),hl,aC (by decide),aC (by decide)]
   exact⟨_,rfl,fo,se,rfl,h,fun h=>(by cases h)⟩
variable{w:bL} {lo PS:Zg} {U:List Pl} {ix:Ix} {m:DM} {d k:Int} {O:Pl→An} {L:Pl→Qy Rs}
def Ft(L:Pl→Qy Rs)(b:Bool)(m:DM)(a p d i:Int):Qy (Bool×In):=if wV b m a p d i=true then(L (a,(p,(i,())))).bind fun r=>.ret (r.2.2.2.1,r.1) else .ret (false,zI)
theorem yJ{α:Type}(a:α):(Qy.ret a).run O=(a,[]):=rfl
theorem Hm(b:Bool)(a p i:Int):(Ft L b m a p d i).run O=(Fv O L b m a p d i,Ri O L b m a p d i):=by
 unfold Ft Fv Ri
 by_cases h:wV b m a p d i=true
 ·rw[aA h,aA h,aA h,Qy.run_bind]
  rw[yJ,dW]
 ·rw[aC h,aC h,aC h];rfl
def wZ(L:Pl→Qy Rs)(b:Bool)(m:DM)(a p d:Int):Nat→Nat→Qy (List In)
 |0,_=>.ret []
 |n+1,c=>(Ft L b m a p d (c:Int)).bind fun y=>(wZ L b m a p d n (c+1)).bind fun l=>.ret (if y.1=true then y.2::l else l)
def w6(L:Pl→Qy Rs)(b:Bool)(m:DM)(p d:Int):Nat→Nat→Qy (List In)
 |0,_=>.ret []
 |n+1,a=>(wZ L b m (a:Int) p d (du m (a:Int)) 0).bind fun l1=>(w6 L b m p d n (a+1)).bind fun l2=>.ret (l1++l2)
theorem Ju(b:Bool)(a p:Int)(n c:Nat):(wZ L b m a p d (n+1) c).run O=((if(Fv O L b m a p d (c:Int)).1=true then(Fv O L b m a p d (c:Int)).2::((wZ L b m a p d n (c+1)).run O).1 else((wZ L b m a p d n (c+1)).run O).1),Ri O L b m a p d (c:Int)++((wZ L b m a p d n (c+1)).run O).2):=by
 show((Ft L b m a p d (c:Int)).bind _).run O=_
 rw[Qy.run_bind,Hm,Qy.run_bind]
 dsimp only
 rw[yJ,dW]
theorem Bv(b:Bool)(p:Int)(n a:Nat):(w6 L b m p d (n+1) a).run O=(((wZ L b m (a:Int) p d (du m (a:Int)) 0).run O).1++((w6 L b m p d n (a+1)).run O).1,((wZ L b m (a:Int) p d (du m (a:Int)) 0).run O).2++((w6 L b m p d n (a+1)).run O).2):=by
 show((wZ L b m (a:Int) p d (du m (a:Int)) 0).bind _).run O=_
 rw[Qy.run_bind,Qy.run_bind]
 dsimp only
 rw[yJ,dW]
theorem Fu(hw:WY w PS U ix)(a p:Int)(a0:0≤a)(a1:a<(w.1.1.2.2.1.length:Int))(N:Int)(n:Nat)(hn:n≤4)(b:Bool)(z:Unit)
 (hk:∀i:Int,0≤i→i<4→wV b m a p d i=true→∀fo se rs,MI w.1.1 PS U O L fo se rs→W (d6 (a,(p,(i,()))) w ix d k b m z fo se rs) (LP w PS U ix m d k O L b z (a,(p,(i,()))) rs)) {fo:FM} {se:SM} {rs:List Rd} (h:MI w.1.1 PS U O L fo se rs) (l:List In) (hl:l.length≤1000) (hv:∀x∈l,x.2.2.2.1.length≤1000):
 W (iE (Int.toNat (n:Int)+1) (p,a,N,a,(n:Int),0,w,ix,d,k,b,m,z,fo,se,l,rs)) (CT (fun r=>∃fo' se',r=(p,N,a,w,ix,d,k,b,m,z,fo',se',l++((wZ L b m a p d n 0).run O).1,da rs ((wZ L b m a p d n 0).run O).2)∧MI w.1.1 PS U O L fo' se' (da rs ((wZ L b m a p d n 0).run O).2)∧(l++((wZ L b m a p d n 0).run O).1).length≤l.length+4∧∀x∈l++((wZ L b m a p d n 0).run O).1,x.2.2.2.1.length≤1000) fun _=>False):=by
 have hB:=hB
 let Y:Nat→List In×List Rd:=fun c=>(wZ L b m a p d (n -c) c).run O
 refine W.mono (rz (L:=iE) rfl (fun c(s:FM×SM×List In×List Rd)(r:cH _ _)=>CT (fun r=>∃fo' se',r=(p,N,a,w,ix,d,k,b,m,z,fo',se',s.2.2.1++(Y c).1,da s.2.2.2 (Y c).2)∧MI w.1.1 PS U O L fo' se' (da s.2.2.2 (Y c).2)∧(s.2.2.1++(Y c).1).length≤s.2.2.1.length+(4 -c)∧∀x∈s.2.2.1++(Y c).1,x.2.2.2.1.length≤1000) (fun _=>False) r) n (fun c(s:FM×SM×List In×List Rd)=>(p,a,N,a,(n:Int),(c:Int),w,ix,d,k,b,m,z,s.1,s.2.1,s.2.2.1,s.2.2.2)) (fun c s=>MI w.1.1 PS U O L s.1 s.2.1 s.2.2.2∧s.2.2.1.length≤1000+c∧∀x∈s.2.2.1,x.2.2.2.1.length≤1000) ?step ?stop _ 0 (fo,se,l,rs) (by omega) (by omega) ⟨h,by omega,hv⟩) fun r hr=> ?fin
 case fin=>exact hr
 case step=>
  rintro rec c ⟨fo,se,l,rs⟩ hc ⟨hI,hl,hv⟩ kk
  dsimp only at hI hl hv ⊢
  have hw2:=ld c (by omega)
  have eY:Y c=((if(Fv O L b m a p d (c:Int)).1=true then(Fv O L b m a p d (c:Int)).2::(Y (c+1)).1 else(Y (c+1)).1),Ri O L b m a p d (c:Int)++(Y (c+1)).2):=by
   show(wZ _ _ _ _ _ _ _ _).run O=_
   rw[show n -c=(n -(c+1))+1 by omega,Ju]
  rw[cU (by omega),eY]
  refine oO.2 ((S9 a p (c:Int) b z hI fun hl=>hk _ (dx c) (by omega) hl fo se rs hI).mono fun r hr=>?_)
  obtain⟨fo',se',rfl,h',hx⟩:=hr
  dsimp only
  rw[ek,hw2]
  generalize Fv O L b m a p d (c:Int)=y at hx ⊢
  obtain⟨y,x⟩:=y
  dsimp only at hx ⊢
  cases y with
  |
   true=>
   have hxl:x.2.2.2.1.length≤1000:=by rw[(hx rfl).1];exact hw.fl a a0 a1
   rw[aA rfl,aA (show(l.length+List.length [x])*48≤aG by rw[db];omega),aA rfl]
   refine(kk (fo',se',l++[x],da rs (Ri O L b m a p d (c:Int))) ⟨h',by rw[ep,db];omega,fun y hy=>?_⟩).ct (fun r hr=>?_) fun r hr=>hr
   ·rcases List.mem_append.1 hy with hy|hy
    ·exact hv y hy
    ·rw[List.mem_singleton.1 hy];exact hxl
   ·obtain⟨fo2,se2,rfl,g1,g2,g3⟩:=hr
    dsimp only at g1 g2 g3 ⊢
    have e:l++[x]++(Y (c+1)).1=l++x::(Y (c+1)).1:=by rw[sm];rfl
    rw[e] at g2 g3 ⊢
    simp only[ep,d9,lO] at g2 ⊢
    exact⟨fo2,se2,rfl,g1,by omega,g3⟩
  |
   false=>
   rw[aC (by decide),aC (by decide)]
   refine(kk (fo',se',l,da rs (Ri O L b m a p d (c:Int))) ⟨h',by dsimp only;omega,hv⟩).ct (fun r hr=>?_) fun r hr=>hr
   obtain⟨fo2,se2,rfl,g1,g2,g3⟩:=hr
   dsimp only at g1 g2 g3 ⊢
   exact⟨fo2,se2,rfl,g1,by omega,g3⟩
 case stop=>
  rintro rec ⟨fo,se,l,rs⟩ ⟨hI,hl,hv⟩
  dsimp only at hI hl hv ⊢
  rw[gn (by omega)]
  have e:Y n=([],[]):=by
   show(wZ _ _ _ _ _ _ (n -n) _).run O=_
   rw[Nat.sub_self];rfl
  rw[e]
  refine⟨_,rfl,fo,se,by rw[dW];rfl,hI,by rw[dW];omega,by rw[dW];exact hv⟩
theorem WU(hw:WY w PS U ix)(hn:w.1.1.2.2.1.length≤6)(p:Int)(b:Bool)(z:Unit)
 (hk:∀a i:Int,0≤a→a<(w.1.1.2.2.1.length:Int)→0≤i→i<4→wV b m a p d i=true→∀fo se rs,MI w.1.1 PS U O L fo se rs→W (d6 (a,(p,(i,()))) w ix d k b m z fo se rs) (LP w PS U ix m d k O L b z (a,(p,(i,()))) rs)):
 W (mX p w ix d k b m z [] [] []) fun r=>∃fo' se',r=(((w6 L b m p d w.1.1.2.2.1.length 0).run O).1,w,ix,d,k,b,m,z,fo',se',da [] ((w6 L b m p d w.1.1.2.2.1.length 0).run O).2)∧MI w.1.1 PS U O L fo' se' (da [] ((w6 L b m p d w.1.1.2.2.1.length 0).run O).2)∧((w6 L b m p d w.1.1.2.2.1.length 0).run O).1.length≤24∧∀x∈((w6 L b m p d w.1.1.2.2.1.length 0).run O).1,x.2.2.2.1.length≤1000:=by
 have hB:=hB
 let Y:Nat→List In×List Rd:=fun c=>(w6 L b m p d (w.1.1.2.2.1.length -c) c).run O
 unfold mX
 refine bX.2 ((W.mono (rz (L:=rM) rfl (fun c(s:FM×SM×List In×List Rd)(r:cH _ _)=>CT (fun r=>∃fo' se',r=(w,ix,d,k,b,m,z,fo',se',s.2.2.1++(Y c).1,da s.2.2.2 (Y c).2)∧MI w.1.1 PS U O L fo' se' (da s.2.2.2 (Y c).2)∧(s.2.2.1++(Y c).1).length≤s.2.2.1.length+4*(6 -c)∧∀x∈s.2.2.1++(Y c).1,x.2.2.2.1.length≤1000) (fun _=>False) r) w.1.1.2.2.1.length (fun c(s:FM×SM×List In×List Rd)=>(p,(w.1.1.2.2.1.length:Int),(c:Int),w,ix,d,k,b,m,z,s.1,s.2.1,s.2.2.1,s.2.2.2)) (fun c s=>MI w.1.1 PS U O L s.1 s.2.1 s.2.2.2∧s.2.2.1.length≤4*c∧∀x∈s.2.2.1,x.2.2.2.1.length≤1000) ?step ?stop _ 0 ([],[],[],[]) (by omega) (by omega) ⟨MI.nil _ _ _ _ _,dc _,fun x hx=>(by cases hx)⟩) fun r hr=>hr).ct (fun r hr=>?_) fun r hr=>hr.elim)
 case step=>
  rintro rec c ⟨fo,se,l,rs⟩ hc ⟨hI,hl,hv⟩ kk
  dsimp only at hI hl hv ⊢
  have hw2:=ld c (by omega)
  have eY:Y c=(((wZ L b m (c:Int) p d (du m (c:Int)) 0).run O).1++(Y (c+1)).1,((wZ L b m (c:Int) p d (du m (c:Int)) 0).run O).2++(Y (c+1)).2):=by
   show(w6 _ _ _ _ _ _ _).run O=_
   rw[show w.1.1.2.2.1.length -c=(w.1.1.2.2.1.length -(c+1))+1 by omega,Bv]
  have hn4:du m (c:Int)≤4:=by unfold du;split<;>omega
  have hit:=Fu (L:=L) (O:=O) (m:=m) (d:=d) (k:=k) hw (c:Int) p (dx c) (by omega) (w.1.1.2.2.1.length:Int) (du m (c:Int)) hn4 b z (fun i h0 h1=>hk (c:Int) i (dx c) (by omega) h0 h1) hI l (by omega) hv
  rw[cU (by omega),eY]
  refine bX.2 ?_
  have e:aH (U:=Int×Int×Int×Int×Int×bL×Ix×Int×Int×Bool×DM×Unit×FM×SM×List In×List Rd) (if(aQ (.int .i64) .bool (c:Int) (bE m))=true then(some (.bA (p,(c:Int),1,(w.1.1.2.2.1.length:Int),(c:Int),w,ix,d,k,b,m,z,fo,se,l,rs))) else(some (.bA (p,(c:Int),4,(w.1.1.2.2.1.length:Int),(c:Int),w,ix,d,k,b,m,z,fo,se,l,rs)))) (fun⟨b,c,a,d,e,f,g,h,i,j,k,l,m,n,o,p⟩=>iE (Int.toNat a+1) (b,c,d,e,a,0,f,g,h,i,j,k,l,m,n,o,p))=iE (Int.toNat ((du m (c:Int):Nat):Int)+1) (p,(c:Int),(w.1.1.2.2.1.length:Int),(c:Int),((du m (c:Int):Nat):Int),0,w,ix,d,k,b,m,z,fo,se,l,rs):=by
   unfold du
   by_cases hm:aQ (.int .i64) .bool (c:Int) (bE m)=true
   ·rw[aA hm,aA hm,aI];rfl
   ·rw[aC hm,aC hm,aI];rfl
  rw[e]
  refine hit.ct (fun r hr=>?_) fun r hr=>hr.elim
  obtain⟨fo',se',rfl,h',g1,g2⟩:=hr
  dsimp only
  rw[hw2]
  refine(kk (fo',se',_,_) ⟨h',by dsimp only;omega,g2⟩).ct (fun r hr=>?_) fun r hr=>hr
  obtain⟨fo2,se2,rfl,q1,q2,q3⟩:=hr
  dsimp only at q1 q2 q3 ⊢
  rw[sm] at q2 q3 ⊢
  rw[ek]
  exact⟨fo2,se2,rfl,q1,by omega,q3⟩
 case stop=>
  rintro rec ⟨fo,se,l,rs⟩ ⟨hI,hl,hv⟩
  dsimp only at hI hl hv ⊢
  rw[gn (by omega)]
  have e:Y w.1.1.2.2.1.length=([],[]):=by
   show(w6 _ _ _ _ _ (w.1.1.2.2.1.length -w.1.1.2.2.1.length) _).run O=_
   rw[Nat.sub_self];rfl
  rw[e]
  refine⟨_,rfl,fo,se,by rw[dW];rfl,hI,by rw[dW];omega,by rw[dW];exact hv⟩
 ·obtain⟨fo',se',rfl,h',g1,g2⟩:=hr
  exact⟨_,rfl,fo',se',rfl,h',g1,g2⟩
def AQ(w:bL)(lo:Zg)(r p d:Int):Qy (List In):=w6 (LL w lo r) (decide (r=0)) (dM w) p d w.1.1.2.2.1.length 0
theorem R0{w:bL}(hs:SA w.1.1)(hT:FT w.1.1)(hf:w.2.1.length≤60){lo:Zg}{r:Int}(er:C3 w.1=some r)(hcg:r=0→CG w.1.1 lo)(p d k:Int):
 f16 w p d k=some (((AQ w lo r p d).run (Oa w d k)).1,da [] ((AQ w lo r p d).run (Oa w d k)).2)∧((AQ w lo r p d).run (Oa w d k)).1.length≤24∧(∀x∈((AQ w lo r p d).run (Oa w d k)).1,x.2.2.2.1.length≤1000)∧(da [] ((AQ w lo r p d).run (Oa w d k)).2).length≤2200000:=by
 obtain⟨ix,e1,h1⟩:=Jh w (by omega) hs.sw.rules d k (decide (r=(0:Int)))
 unfold f16
 rw[er,aL,e1,aL]
 dsimp only
 have hix:=IXo hf p h1
 obtain⟨x,ex,fo,se,rfl,hI,g1,g2⟩:=WU (L:=LL w lo r) (O:=Oa w d k) (k:=k) (d:=d) (m:=dM w) (WYu hs hT hf p 0 hix) hT.dA p (decide (r=0)) () fun a i a0 a1 i0 i1 hl fo se rs hI=>Jt hs hT hf hcg 0 a p h1 d k () (jc _ (RW p _ a0 a1 (d7 _ (dE ..)) i0 i1)) hl fo se rs hI
 have hU:=Df p 0 hT hf
 have hl:=hI.fi.len
 have hr:=hI.fi.rs
 unfold AQ
 rw[ex]
 exact⟨rfl,g1,g2,by omega⟩
section
variable{w:bL} {lo PS:Zg} {U:List Pl} {ix:Ix} {m:DM} {d k:Int} {O:Pl→An} {L:Pl→Qy Rs}
theorem WV(hw:WY w PS U ix)(hn:w.1.1.2.2.1.length≤6)(p:Int)(b:Bool)(z:Unit){fo0:FM}{se0:SM}{rs0:List Rd}(h0:MI w.1.1 PS U O L fo0 se0 rs0)
 (hk:∀a i:Int,0≤a→a<(w.1.1.2.2.1.length:Int)→0≤i→i<4→wV b m a p d i=true→∀fo se rs,MI w.1.1 PS U O L fo se rs→W (d6 (a,(p,(i,()))) w ix d k b m z fo se rs) (LP w PS U ix m d k O L b z (a,(p,(i,()))) rs)):
 W (mX p w ix d k b m z fo0 se0 rs0) fun r=>∃fo' se',r=(((w6 L b m p d w.1.1.2.2.1.length 0).run O).1,w,ix,d,k,b,m,z,fo',se',da rs0 ((w6 L b m p d w.1.1.2.2.1.length 0).run O).2)∧MI w.1.1 PS U O L fo' se' (da rs0 ((w6 L b m p d w.1.1.2.2.1.length 0).run O).2)∧((w6 L b m p d w.1.1.2.2.1.length 0).run O).1.length≤24∧∀x∈((w6 L b m p d w.1.1.2.2.1.length 0).run O).1,x.2.2.2.1.length≤1000:=by
 have hB:=hB
 let Y:Nat→List In×List Rd:=fun c=>(w6 L b m p d (w.1.1.2.2.1.length -c) c).run O
 unfold mX
 refine bX.2 ((W.mono (rz (L:=rM) rfl (fun c(s:FM×SM×List In×List Rd)(r:cH _ _)=>CT (fun r=>∃fo' se',r=(w,ix,d,k,b,m,z,fo',se',s.2.2.1++(Y c).1,da s.2.2.2 (Y c).2)∧MI w.1.1 PS U O L fo' se' (da s.2.2.2 (Y c).2)∧(s.2.2.1++(Y c).1).length≤s.2.2.1.length+4*(6 -c)∧∀x∈s.2.2.1++(Y c).1,x.2.2.2.1.length≤1000) (fun _=>False) r) w.1.1.2.2.1.length (fun c(s:FM×SM×List In×List Rd)=>(p,(w.1.1.2.2.1.length:Int),(c:Int),w,ix,d,k,b,m,z,s.1,s.2.1,s.2.2.1,s.2.2.2)) (fun c s=>MI w.1.1 PS U O L s.1 s.2.1 s.2.2.2∧s.2.2.1.length≤4*c∧∀x∈s.2.2.1,x.2.2.2.1.length≤1000) ?step ?stop _ 0 (fo0,se0,[],rs0) (by omega) (by omega) ⟨h0,dc _,fun x hx=>(by cases hx)⟩) fun r hr=>hr).ct (fun r hr=>?_) fun r hr=>hr.elim)
 case step=>
  rintro rec c ⟨fo,se,l,rs⟩ hc ⟨hI,hl,hv⟩ kk
  dsimp only at hI hl hv ⊢
  have hw2:=ld c (by omega)
  have eY:Y c=(((wZ L b m (c:Int) p d (du m (c:Int)) 0).run O).1++(Y (c+1)).1,((wZ L b m (c:Int) p d (du m (c:Int)) 0).run O).2++(Y (c+1)).2):=by
   show(w6 _ _ _ _ _ _ _).run O=_
   rw[show w.1.1.2.2.1.length -c=(w.1.1.2.2.1.length -(c+1))+1 by omega,Bv]
  have hn4:du m (c:Int)≤4:=by unfold du;split<;>omega
  have hit:=Fu (L:=L) (O:=O) (m:=m) (d:=d) (k:=k) hw (c:Int) p (dx c) (by omega) (w.1.1.2.2.1.length:Int) (du m (c:Int)) hn4 b z (fun i h0 h1=>hk (c:Int) i (dx c) (by omega) h0 h1) hI l (by omega) hv
  rw[cU (by omega),eY]
  refine bX.2 ?_
  have e:aH (U:=Int×Int×Int×Int×Int×bL×Ix×Int×Int×Bool×DM×Unit×FM×SM×List In×List Rd) (if(aQ (.int .i64) .bool (c:Int) (bE m))=true then(some (.bA (p,(c:Int),1,(w.1.1.2.2.1.length:Int),(c:Int),w,ix,d,k,b,m,z,fo,se,l,rs))) else(some (.bA (p,(c:Int),4,(w.1.1.2.2.1.length:Int),(c:Int),w,ix,d,k,b,m,z,fo,se,l,rs)))) (fun⟨b,c,a,d,e,f,g,h,i,j,k,l,m,n,o,p⟩=>iE (Int.toNat a+1) (b,c,d,e,a,0,f,g,h,i,j,k,l,m,n,o,p))=iE (Int.toNat ((du m (c:Int):Nat):Int)+1) (p,(c:Int),(w.1.1.2.2.1.length:Int),(c:Int),((du m (c:Int):Nat):Int),0,w,ix,d,k,b,m,z,fo,se,l,rs):=by
   unfold du
   by_cases hm:aQ (.int .i64) .bool (c:Int) (bE m)=true
   ·rw[aA hm,aA hm,aI];rfl
   ·rw[aC hm,aC hm,aI];rfl
  rw[e]
  refine hit.ct (fun r hr=>?_) fun r hr=>hr.elim
  obtain⟨fo',se',rfl,h',g1,g2⟩:=hr
  dsimp only
  rw[hw2]
  refine(kk (fo',se',_,_) ⟨h',by dsimp only;omega,g2⟩).ct (fun r hr=>?_) fun r hr=>hr
  obtain⟨fo2,se2,rfl,q1,q2,q3⟩:=hr
  dsimp only at q1 q2 q3 ⊢
  rw[sm] at q2 q3 ⊢
  rw[ek]
  exact⟨fo2,se2,rfl,q1,by omega,q3⟩
 case stop=>
  rintro rec ⟨fo,se,l,rs⟩ ⟨hI,hl,hv⟩
  dsimp only at hI hl hv ⊢
  rw[gn (by omega)]
  have e:Y w.1.1.2.2.1.length=([],[]):=by
   show(w6 _ _ _ _ _ (w.1.1.2.2.1.length -w.1.1.2.2.1.length) _).run O=_
   rw[Nat.sub_self];rfl
  rw[e]
  refine⟨_,rfl,fo,se,by rw[dW];rfl,hI,by rw[dW];omega,by rw[dW];exact hv⟩
 ·obtain⟨fo',se',rfl,h',g1,g2⟩:=hr
  exact⟨_,rfl,fo',se',rfl,h',g1,g2⟩
end
def A8(w:bL)(P:Zg):Zg:=P++A7 w 0
def Up(w:bL)(P:Zg):List Pl:=(List.range w.1.1.2.2.1.length).flatMap fun(i:Nat)=>(A8 w P).flatMap fun(q:Int)=>(List.range 4).map fun(j:Nat)=>(((i:Int),(q,((j:Int),()))):Pl)
theorem Jv{w:bL}{P:Zg}(hP:P.length≤4)(hT:FT w.1.1)(hf:w.2.1.length≤60):(Up w P).length≤2200:=by
 have h1:(A8 w P).length≤90:=by
  have:=Fm 0 hT hf
  unfold A8
  rw[ep]
  omega
 have h2:∀i:Nat,((A8 w P).flatMap fun(q:Int)=>(List.range 4).map fun(j:Nat)=>(((i:Int),(q,((j:Int),()))):Pl)).length≤360:=fun i=>by
  have:=nw (f:=fun(q:Int)=>(List.range 4).map fun(j:Nat)=>(((i:Int),(q,((j:Int),()))):Pl)) (n:=4) (l:=A8 w P) fun y _=>by rw[im,List.length_range];exact dc _
  omega
 have h3:=nw (f:=fun(i:Nat)=>(A8 w P).flatMap fun(q:Int)=>(List.range 4).map fun(j:Nat)=>(((i:Int),(q,((j:Int),()))):Pl)) (n:=360) (l:=List.range w.1.1.2.2.1.length) fun i _=>h2 i
 rw[List.length_range] at h3
 have h4:=hT.dA
 unfold Up
 omega
theorem R3{w:bL}{P:Zg}{a q i:Int}(a0:0≤a)(a1:a<(w.1.1.2.2.1.length:Int))(hq:q∈A8 w P)(i0:0≤i)(i1:i<4):(a,(q,(i,())))∈Up w P:=by
 refine List.mem_flatMap.2 ⟨a.toNat,List.mem_range.2 (by omega),List.mem_flatMap.2 ⟨q,hq,List.mem_map.2 ⟨i.toNat,List.mem_range.2 (by omega),?_⟩⟩⟩
 have e1:((a.toNat:Nat):Int)=a:=by omega
 have e2:((i.toNat:Nat):Int)=i:=by omega
 rw[e1,e2]
theorem IXp{w:bL}(hf:w.2.1.length≤60)(P:Zg){ix:List (Ky×List Fa)}(h:∀key,aQ aF (.slice 64 aW) key ix=eW key w.2.1):IX (A8 w P) (some ix):=fun key=>
 ⟨(IXo hf 0 h key).1,fun f hf'=>jc _ ((IXo hf 0 h key).2 f hf')⟩
theorem WXp{w:bL}{lo:Zg}(hc:CG w.1.1 lo)(hT:FT w.1.1)(hf:w.2.1.length≤60){P:Zg}(hP:P.length≤4){ix:Ix}(hix:IX (A8 w P) ix):WX w lo (A8 w P) (Up w P) ix where
 cg:=hc
 zero:=jc _ (dE ..)
 consts u hu t ht:=jc _ (d7 _ (d7 _ (jc _ (List.mem_flatMap.2 ⟨u,hu,List.mem_map.2 ⟨t,ht,rfl⟩⟩))))
 pl _ _ _ a0 a1 hq i0 i1:=R3 a0 a1 hq i0 i1
 len:=cI (Jv hP hT hf) (by decide)
 fl a a0 a1:=cI (hT.fields _ (dO (t:=bR) (l:=w.1.1.2.2.1) a0 a1)) (by decide)
 ix:=hix
theorem WYp{w:bL}(hs:SA w.1.1)(hT:FT w.1.1)(hf:w.2.1.length≤60){P:Zg}(hP:P.length≤4){ix:Ix}(hix:IX (A8 w P) ix):WY w (A8 w P) (Up w P) ix:=
 ⟨hs.sw,cI (Jv hP hT hf) (by decide),fun a a0 a1=>cI (hT.fields _ (dO (t:=bR) (l:=w.1.1.2.2.1) a0 a1)) (by decide),hix⟩
theorem Ta{w:bL}(hs:SA w.1.1)(hT:FT w.1.1)(hf:w.2.1.length≤60){lo:Zg}(hcg:CG w.1.1 lo){P:Zg}(hP:P.length≤4)(a p:Int){ix:List (Ky×List Fa)}(h:∀key,aQ aF (.slice 64 aW) key ix=eW key w.2.1)(d k:Int)(z:Unit){i:Int}(a0:0≤a)(a1:a<(w.1.1.2.2.1.length:Int))(i0:0≤i)(i1:i<4)(hp:p∈P)(fo:FM)(se:SM)(rs:List Rd)(hI:MI w.1.1 (A8 w P) (Up w P) (Oa w d k) (LL w lo 0) fo se rs):
 W (d6 (a,(p,(i,()))) w (some ix) d k true (dM w) z fo se rs) (LP w (A8 w P) (Up w P) (some ix) (dM w) d k (Oa w d k) (LL w lo 0) true z (a,(p,(i,()))) rs):=by
 have hPp:p∈A8 w P:=iP _ hp
 have hU:(a,(p,(i,())))∈Up w P:=R3 a0 a1 hPp i0 i1
 have hix:=IXp hf P h
 have Y:=MYo (WYp hs hT hf hP hix) (by omega) h d k
 have X:=MXo (WXp hcg hT hf hP hix) (by omega) h (dM w) d k
 have e:LL w lo 0=LQ w.1.1 (dM w) lo:=aA rfl
 rw[e] at hI ⊢
 refine Bp Y _ z _ hI hU hPp ?_
 by_cases hm:aQ (.int .i64) .bool a (bE (dM w))=true
 ·exact Bn X _ z _ hI hU hPp
 ·exact Bo Y _ z _ (Jn hcg.rk.pre _ _) hm hI hU hPp
theorem WW{w:bL}(hs:SA w.1.1)(hT:FT w.1.1)(hf:w.2.1.length≤60){lo:Zg}(hcg:CG w.1.1 lo){P:Zg}(hP:P.length≤4){p:Int}(hp:p∈P){ix:List (Ky×List Fa)}(h:∀key,aQ aF (.slice 64 aW) key ix=eW key w.2.1)(d k:Int){fo:FM}{se:SM}{rs:List Rd}(hI:MI w.1.1 (A8 w P) (Up w P) (Oa w d k) (LL w lo 0) fo se rs):
 ∃fo' se' rs',mX p w (some ix) d k true (dM w) () fo se rs=some (((AQ w lo 0 p d).run (Oa w d k)).1,w,some ix,d,k,true,dM w,(),fo',se',rs')∧MI w.1.1 (A8 w P) (Up w P) (Oa w d k) (LL w lo 0) fo' se' rs':=by
 obtain⟨x,ex,fo',se',rfl,h1,_⟩:=WV (L:=LL w lo 0) (O:=Oa w d k) (k:=k) (d:=d) (m:=dM w) (WYp hs hT hf hP (IXp hf P h)) hT.dA p true () hI fun a i a0 a1 i0 i1 hl fo se rs hI=>Ta hs hT hf hcg hP a p h d k () a0 a1 i0 i1 hp fo se rs hI
 exact⟨fo',se',_,ex,h1⟩
theorem xA(x y:Zg)(hx:x.length≤aG):MH x y=some (decide (x=y)):=by
 have hB:=hB
 unfold MH
 by_cases hl:x.length=y.length
 ·rw[aC (by simp[hl])]
  have key:=Se (L:=yQ) rfl x.length (fun i=>(x,y,(x.length:Int),(i:Int))) () (fun i=>nth (.int .i64) x (i:Int)=nth (.int .i64) y (i:Int)) (fun r:Bool=>r=false∧x≠y) (by
   intro rec i hi
   dsimp only
   rw[cU (by omega),eN i,aA (by omega),eN i,aA (by omega),bG (by omega)]
   by_cases he:nth (.int .i64) x (i:Int)=nth (.int .i64) y (i:Int)
   ·rw[aC (by simp[he])]
    exact Or.inl ⟨he,rfl⟩
   ·rw[aA (by simp[he])]
    exact Or.inr ⟨false,⟨rfl,fun e=>he (by rw[e])⟩,rfl⟩) (by
   intro rec
   dsimp only
   rw[gn (by omega)]) (Int.toNat (x.length:Int)+1) (by omega)
  rcases key with⟨h1,h2⟩|⟨r,⟨h1,h1'⟩,h2⟩
  ·have e:x=y:=by
    apply List.ext_getElem hl
    intro i h3 h4
    have:=h1 i h3
    rw[dg (t:=.int .i64) h3,dg (t:=.int .i64) h4] at this
    exact this
   have h2:yQ (Int.toNat (x.length:Int)+1) (x,y,(x.length:Int),0)=_:=h2
   rw[h2,aI,cS e]
  ·have h2:yQ (Int.toNat (x.length:Int)+1) (x,y,(x.length:Int),0)=_:=h2
   rw[h2,eT,dz h1',h1]
 ·rw[aA (by simp only[gV,decide_eq_false_iff_not];omega),dz (fun e=>hl (by rw[e]))]
theorem Bw{g:Ba}(hs:SA g.1):∃r,C3 g=some r∧(r=0→CG g.1 g.2.1):=by
 obtain⟨⟨r,b⟩,e,hm⟩:=MA g.1 hs
 unfold C3
 rw[e,aL]
 dsimp only
 by_cases h:r=0
 ·subst h
  obtain⟨hb,hc⟩:=hm rfl
  obtain⟨q,hq⟩:=CV b.1 g.1 hs.ss
  have hq2:=xA b.2.1 g.2.1 (cI hc.rk.len (by have:=hc.tg.many;have:=hB;omega))
  unfold f67
  rw[hq]
  by_cases e2:b.2.1=g.2.1
  ·rw[e2] at hc
   rw[cS e2] at hq2
   cases q<;>simp only[aL,hq2]<;>simp
   exact hc
  ·rw[dz e2] at hq2
   cases q<;>simp only[aL,hq2]<;>simp
 ·refine⟨160,?_,fun h'=>(by cases h')⟩
  rw[aA (by simp[h])]
  rfl
theorem Jw{g:Ba}(hs:SA g.1)(P:Zg)(hP:P.length≤4)(d:Int):∃v,Wi g P d=some v∧(v=true→CG g.1 g.2.1∧C3 g=some 0):=by
 have hB:=hB
 suffices hW:W (Wi g P d) fun v=>v=true→CG g.1 g.2.1∧C3 g=some 0 by
  obtain⟨v,e,h⟩:=hW
  exact⟨v,e,h⟩
 unfold Wi
 refine bX.2 (oO.2 ?_)
 have h0:∃v2,(if(decide ((List.length P:Int)<(1:Int)))=true then(some true) else(if(decide ((64:Int)<(List.length P:Int)))=true then(some true) else(if(decide (d<(0:Int)))=true then(some true) else(some (decide ((1024:Int)≤d))))))=some v2:=by
  repeat' (first|exact⟨_,rfl⟩|split)
 obtain⟨v2,e2⟩:=h0
 rw[e2]
 refine oN.2 ?_
 cases v2 with
 |true=>exact⟨_,rfl,fun h=>(by cases h)⟩
 |
  false=>
  refine⟨_,rfl,?_⟩
  dsimp only
  refine bX.2 (W.ct (cP (L:=I6) rfl (CT (fun e=>e=g) fun v=>v=false) P.length (fun c(lst:Int)=>(lst,P,(P.length:Int),(c:Int),g)) (fun _ _=>True) ?step ?stop (Int.toNat (P.length:Int)+1) 0 (-1) (by omega) (by omega) trivial) (fun e he=>?_) fun v hv=>?_)
  case step=>
   intro rec c lst hc _ kk
   dsimp only
   rw[cU (by omega),eN c,aA (by omega),bG (by omega)]
   split
   ·rw[aL,aA rfl]
    exact⟨_,rfl,rfl⟩
   ·rw[aL]
    split
    ·exact⟨_,rfl,rfl⟩
    ·exact kk _ trivial
  case stop=>
   intro rec lst _
   dsimp only
   rw[gn (by omega)]
   exact⟨_,rfl,rfl⟩
  ·subst he
   obtain⟨r,er,h⟩:=Bw hs
   rw[er,aL]
   exact⟨_,rfl,fun h'=>⟨h (gM h'),by rw[gM h']⟩⟩
  ·subst hv
   exact fun h=>(by cases h)
def AL(w:bL)(lo:Zg)(p d k:Int):List In:=((AQ w lo 0 p d).run (Oa w d k)).1
def plK(x:In):Pl:=(x.1,(x.2.1,(x.2.2.1,())))
def qZ(m:List (Pl×In))(x:In):List (Pl×In):=bC aF (plK x) x m
def mapA(w:bL)(lo:Zg)(P:Zg)(d k:Int):List (Pl×In):=P.foldl (fun acc p=>(AL w lo p d k).foldl qZ acc) []
structure MG(m:List (Pl×In))(n:Nat):Prop where
 n6:(m.map (·.1)).Nodup
 len:m.length≤n
 Tb:∀e∈m,e.2.2.2.2.1.length≤1000
theorem MG.put{m:List (Pl×In)}{n:Nat}(h:MG m n){x:In}(hx:x.2.2.2.1.length≤1000):MG (qZ m x) (n+1):=by
 refine⟨dw (kt:=aF) rfl h.n6,cI (dt (kt:=aF)) (by have:=h.len;omega),?_⟩
 have key:∀(m:List (Pl×In)),(∀e∈m,e.2.2.2.2.1.length≤1000)→∀e∈bC aF (plK x) x m,e.2.2.2.2.1.length≤1000:=by
  intro m
  induction m with
  |
   nil=>
   intro _ e he
   rw[show e=(plK x,x) by simpa[bC] using he]
   exact hx
  |
   cons y m ih=>
   intro hm e he
   unfold bC at he
   split at he
   ·rcases List.mem_cons.1 he with h|h
    ·rw[h];exact hx
    ·exact hm e (d7 _ h)
   ·rcases List.mem_cons.1 he with h|h
    ·rw[h];exact hm y (dE ..)
    ·exact ih (fun e he=>hm e (d7 _ he)) e h
 exact key m h.Tb
theorem MG.fold:∀(l:List In)(m:List (Pl×In))(n:Nat),MG m n→(∀x∈l,x.2.2.2.1.length≤1000)→MG (l.foldl qZ m) (n+l.length)
 |[],_,_,h,_=>h
 |
  x::l,m,n,h,hl=>by
  have:=MG.fold l (qZ m x) (n+1) (h.put (hl x (dE ..))) fun y hy=>hl y (d7 _ hy)
  rw[d9]
  rwa [show n+(l.length+1)=n+1+l.length by omega]
section
variable{w:bL} {lo:Zg} {P:Zg} {d k:Int} {ix:List (Ky×List Fa)}
theorem xB{α β:Type}(f:β→α→β)(b:β)(l:List α)(c:Nat)(hc:c<l.length):(l.take (c+1)).foldl f b=f ((l.take c).foldl f b) l[c]:=by
 rw[List.take_succ_eq_append_getElem hc,List.foldl_append]
 rfl
theorem Tc(x0:Int)(x1:Int)(fo:FM)(se:SM)(rs:List Rd)(Q:Zg)(b:Bool)(m:DM)(z:Unit)(l:List In)(hl:l.length≤24)(hv:∀x∈l,x.2.2.2.1.length≤1000)(acc:List (Pl×In)){n:Nat}(hn:n≤1000)(ha:MG acc n):
 rN (Int.toNat (l.length:Int)+1) (Q,x0,x1,l,(l.length:Int),0,w,some ix,d,k,b,m,z,Q,fo,se,acc,rs)=some (.bA (Q,x0,x1,w,some ix,d,k,b,m,z,Q,fo,se,l.foldl qZ acc,rs)):=by
 have hB:=hB
 have key:=cP (L:=rN) rfl (fun r=>r= .bA (Q,x0,x1,w,some ix,d,k,b,m,z,Q,fo,se,l.foldl qZ acc,rs)) l.length (fun c(s:List (Pl×In))=>(Q,x0,x1,l,(l.length:Int),(c:Int),w,some ix,d,k,b,m,z,Q,fo,se,s,rs)) (fun c s=>s=(l.take c).foldl qZ acc∧MG s (n+c)) (by
  intro rec c s hc hs kk
  obtain⟨hs,hg⟩:=hs
  have h1:=hg.len
  dsimp only
  rw[cU (by omega),eN c,aA (by omega),dg (t:=bN) hc,bG (by omega)]
  show W (Option.bind (some (plK l[c])) _) _
  rw[aL,aA (by omega)]
  exact kk _ ⟨by rw[xB qZ acc l c hc,←hs];rfl,hg.put (hv _ (iQ hc))⟩) (by
  intro rec s hs
  obtain⟨hs,_⟩:=hs
  dsimp only
  rw[gn (by omega)]
  refine⟨_,rfl,?_⟩
  rw[hs,List.take_length]) (Int.toNat (l.length:Int)+1) 0 acc (by omega) (by omega) ⟨rfl,ha⟩
 obtain⟨r,e,hr⟩:=key
 subst hr
 exact e
theorem Jx{w:bL}(hs:SA w.1.1)(hT:FT w.1.1)(hf:w.2.1.length≤60){lo:Zg}(hcg:CG w.1.1 lo)(er:C3 w.1=some 0)(p d k:Int):(AL w lo p d k).length≤24∧∀x∈AL w lo p d k,x.2.2.2.1.length≤1000:=by
 obtain⟨_,h1,h2,_⟩:=R0 hs hT hf er (fun _=>hcg) p d k
 exact⟨h1,h2⟩
theorem yL{w:bL}(hs:SA w.1.1)(hT:FT w.1.1)(hf:w.2.1.length≤60){lo:Zg}(hcg:CG w.1.1 lo)(er:C3 w.1=some 0)(P:Zg)(d k:Int):MG (mapA w lo P d k) (24*P.length):=by
 have key:∀(P:Zg)(acc:List (Pl×In))(n:Nat),MG acc n→MG (P.foldl (fun acc p=>(AL w lo p d k).foldl qZ acc) acc) (n+24*P.length):=by
  intro P
  induction P with
  |nil=>intro acc n h;exact h
  |
   cons p P ih=>
   intro acc n h
   obtain⟨h1,h2⟩:=Jx hs hT hf hcg er p d k
   have h3:=MG.fold (AL w lo p d k) acc n h h2
   have h4:MG ((AL w lo p d k).foldl qZ acc) (n+24):=⟨h3.n6,by have:=h3.len;omega,h3.Tb⟩
   have:=ih _ _ h4
   rw[d9]
   rwa [show n+24*(P.length+1)=n+24+24*P.length by omega]
 have:=key P [] 0 ⟨List.nodup_nil,dc _,fun e he=>(by cases he)⟩
 rwa [dV] at this
theorem Jy(hs:SA w.1.1)(hT:FT w.1.1)(hf:w.2.1.length≤60)(hcg:CG w.1.1 lo)(er:C3 w.1=some 0)(hP:P.length≤4)(h:∀key,aQ aF (.slice 64 aW) key ix=eW key w.2.1):
 ∃fo se rs,rO w (some ix) d k true (dM w) () P [] [] []=some (some (mapA w lo P d k),w,some ix,d,k,true,dM w,(),P,fo,se,rs):=by
 have hB:=hB
 suffices hW:W (rO w (some ix) d k true (dM w) () P [] [] []) fun r=>∃fo se rs,r=(some (mapA w lo P d k),w,some ix,d,k,true,dM w,(),P,fo,se,rs) by
  obtain⟨r,e,fo,se,rs,rfl⟩:=hW
  exact⟨fo,se,rs,e⟩
 unfold rO
 refine bX.2 (W.ct (cP (L:=yq) rfl (CT (fun r=>∃fo se rs,r=(w,some ix,d,k,true,dM w,(),P,fo,se,mapA w lo P d k,rs)) fun _=>False) P.length (fun c(s:FM×SM×List (Pl×In)×List Rd)=>(P,(P.length:Int),(c:Int),w,some ix,d,k,true,dM w,(),P,s.1,s.2.1,s.2.2.1,s.2.2.2)) (fun c s=>MI w.1.1 (A8 w P) (Up w P) (Oa w d k) (LL w lo 0) s.1 s.2.1 s.2.2.2∧s.2.2.1=mapA w lo (P.take c) d k) ?step ?stop _ 0 ([],[],[],[]) (by omega) (by omega) ⟨MI.nil _ _ _ _ _,rfl⟩) (fun r hr=>?_) fun r hr=>hr.elim)
 case step=>
  rintro rec c ⟨fo,se,acc,rs⟩ hc ⟨hI,ha⟩ kk
  dsimp only at hI ha ⊢
  obtain⟨fo',se',rs',e1,h1⟩:=WW hs hT hf hcg hP (iQ hc) h d k hI
  have hg:=yL hs hT hf hcg er (P.take c) d k
  rw[←ha] at hg
  have hlc:(P.take c).length≤4:=by rw[kz];omega
  obtain⟨g1,g2⟩:=Jx hs hT hf hcg er P[c] d k
  rw[cU (by omega),eN c,aA (by omega),dg (t:=.int .i64) hc,e1,aL]
  dsimp only
  have e2:=Tc (w:=w) (ix:=ix) (d:=d) (k:=k) (P.length:Int) (c:Int) fo' se' rs' P true (dM w) () (AL w lo P[c] d k) g1 g2 acc (n:=24*(P.take c).length) (by omega) hg
  unfold AL at e2
  rw[e2,aI]
  dsimp only
  rw[bG (by omega)]
  refine kk (fo',se',_,rs') ⟨h1,?_⟩
  dsimp only
  unfold mapA
  rw[xB (fun acc p=>(AL w lo p d k).foldl qZ acc) [] P c hc,ha]
  rfl
 case stop=>
  rintro rec ⟨fo,se,acc,rs⟩ ⟨hI,ha⟩
  dsimp only at hI ha ⊢
  rw[gn (by omega)]
  rw[List.take_length] at ha
  subst ha
  exact⟨_,rfl,fo,se,rs,rfl⟩
 ·obtain⟨fo,se,rs,rfl⟩:=hr
  exact⟨_,rfl,fo,se,rs,rfl⟩
theorem Jz(hcg:CG w.1.1 w.1.2.1)(x0 x1:Int)(fm:Zc)(d k:Int)(b:Bool)(m:DM)(z:Unit)(fo:FM)(se:SM)(rs:List Rd):
 ∃o,rP (Int.toNat (w.1.2.1.length:Int)+1) (x0,x1,w.1.2.1,(w.1.2.1.length:Int),0,P,List.replicate (Int.toNat (w.1.2.1.length:Int)) (0:Int),w,fm,d,k,b,m,z,fo,se,rs)=some (.bA (x0,x1,P,o,w,fm,d,k,b,m,z,fo,se,rs)):=by
 have hB:=hB
 have hN:w.1.2.1.length≤w.1.1.2.2.1.length:=hcg.rk.len
 have hM:=hcg.tg.many
 have hlen:w.1.2.1.length=w.1.1.2.2.1.length:=by
  refine Nat.le_antisymm hN ?_
  have h1:((List.range w.1.1.2.2.1.length).map fun i:Nat=>(i:Int)).length≤w.1.2.1.length:=by
   refine xx _ _ ?_ fun x hx=>?_
   ·exact List.Pairwise.map _ (fun a b hab e=>hab (by omega)) List.nodup_range
   ·obtain⟨i,hi,rfl⟩:=List.mem_map.1 hx
    exact(hcg.rk.all _).2 ⟨dx i,by have:=List.mem_range.1 hi;omega⟩
  rwa [im,List.length_range] at h1
 have key:=cP (L:=rP) rfl (fun r=>∃o,r= .bA (x0,x1,P,o,w,fm,d,k,b,m,z,fo,se,rs)) w.1.2.1.length (fun c(s:Zg)=>(x0,x1,w.1.2.1,(w.1.2.1.length:Int),(c:Int),P,s,w,fm,d,k,b,m,z,fo,se,rs)) (fun c s=>s.length=w.1.2.1.length) (by
  intro rec c s hc hs kk
  dsimp only
  have hm:=(hcg.rk.all _).1 (iQ hc)
  rw[cU (by omega),eN c,aA (by omega),dg (t:=.int .i64) hc,aA hm.1,aA (show w.1.2.1[c]<(s.length:Int) by rw[hs,hlen];exact hm.2),bG (by omega)]
  exact kk _ (by rw[cj];exact hs)) (by
  intro rec s hs
  dsimp only
  rw[gn (by omega)]
  exact⟨_,rfl,s,rfl⟩) (Int.toNat (w.1.2.1.length:Int)+1) 0 (List.replicate (Int.toNat (w.1.2.1.length:Int)) (0:Int)) (by omega) (by omega) (by rw[jC];omega)
 obtain⟨r,e,o,hr⟩:=key
 subst hr
 exact⟨o,e⟩
theorem uy(hs:SA w.1.1)(hT:FT w.1.1)(hf:w.2.1.length≤60)(hP:P.length≤4)(d b a:Int):
 (iF w P d b a=none∧jb w P d b a=some false)∨
 (jb w P d b a=none∧CG w.1.1 w.1.2.1∧C3 w.1=some 0∧∃o ix fo se rs,iF w P d b a=some (true,o,w,some ix,d,a,true,dM w,(),some (mapA w w.1.2.1 P d b),some (mapA w w.1.2.1 P d a),rs,fo,se)∧∀key,aQ aF (.slice 64 aW) key ix=eW key w.2.1):=by
 have hB:=hB
 obtain⟨v,ev,hv⟩:=Jw hs P hP d
 cases v with
 |
  false=>
  refine Or.inl ⟨?_,?_⟩
  ·unfold iF
   rw[ev,aL,aA (by decide)]
  ·unfold jb
   rw[ev,aL,aA (by decide)]
 |
  true=>
  obtain⟨hcg,er0⟩:=hv rfl
  refine Or.inr ⟨?_,hcg,er0,?_⟩
  ·unfold jb
   rw[ev,aL,aC (by decide)]
  ·obtain⟨ix,e1,h1⟩:=Jh w (by omega) hs.sw.rules d a true
   have hM:=hcg.tg.many
   have hl:=hcg.rk.len
   unfold iF
   rw[ev,aL,aC (by decide),eN _,aA (jU _),aA (by omega),e1,aL]
   dsimp only
   obtain⟨o,eo⟩:=Jz (P:=P) hcg d b (some ix) d a true (dM w) () [] [] []
   rw[eo,aI]
   dsimp only
   obtain⟨fo1,se1,rs1,ea⟩:=Jy (d:=d) (k:=b) hs hT hf hcg er0 hP h1
   obtain⟨fo2,se2,rs2,eb⟩:=Jy (d:=d) (k:=a) hs hT hf hcg er0 hP h1
   unfold C4
   rw[aL]
   dsimp only
   rw[ea,aL]
   dsimp only
   rw[eb,aL]
   exact⟨o,ix,fo2,se2,rs2,rfl,h1⟩
end
theorem WZ{s:cM}(h:wf iI s):SA s where
 ss:=
  {nZ:=h.1.2.1
   np:=h.2.1.2.1
   dA:=h.2.2.1.2.1
   rules:=h.2.2.2.1.2.1
   iX:=h.2.2.2.2.1.2.1
   fv:=h.2.2.2.2.2.1.2.1
   fields:=fun x hx=>⟨(h.2.2.1.2.2 x hx).2.2.2.2.1.2.1,fun f hf=>((h.2.2.1.2.2 x hx).2.2.2.2.1.2.2 f hf).2.1.2.2.2.2.2.1.2.1⟩
   A0:=fun x hx=>⟨(h.2.2.1.2.2 x hx).2.2.2.2.2.1.2.1,fun d hd=>⟨((h.2.2.1.2.2 x hx).2.2.2.2.2.1.2.2 d hd).1.2.1,((h.2.2.1.2.2 x hx).2.2.2.2.2.1.2.2 d hd).2.2.1.2.1⟩⟩
   rl:=fun r hr=>⟨(h.2.2.2.1.2.2 r hr).2.2.1.2.1,(h.2.2.2.1.2.2 r hr).2.2.2.1.2.1,(h.2.2.2.1.2.2 r hr).2.2.2.2.1.2.1⟩
   mv:=fun c hc=>(h.2.2.2.2.1.2.2 c hc).2.2.2.2.1.2.1
   may:=fun p hp=>(h.2.2.2.2.2.1.2.2 p hp).2.1.2.1}
 bs:=
  {nZ:=h.1.1
   np:=h.2.1.1
   dA:=h.2.2.1.1
   rules:=h.2.2.2.1.1
   iX:=h.2.2.2.2.1.1
   fv:=h.2.2.2.2.2.1.1
   sch:=fun x hx=>⟨(h.2.2.1.2.2 x hx).2.2.2.2.1.1,(h.2.2.1.2.2 x hx).2.2.2.2.2.1.1,fun d hd=>((h.2.2.1.2.2 x hx).2.2.2.2.2.1.2.2 d hd).1.1⟩
   rl:=fun r hr=>⟨(h.2.2.2.1.2.2 r hr).2.2.1.1,(h.2.2.2.1.2.2 r hr).2.2.2.1.1,(h.2.2.2.1.2.2 r hr).2.2.2.2.1.1⟩
   cv:=fun c hc=>(h.2.2.2.2.1.2.2 c hc).2.2.2.2.1.1
   pu:=fun p hp=>(h.2.2.2.2.2.1.2.2 p hp).2.1.1}
 sw:=
  {np:=h.2.1.2.1
   dA:=h.2.2.1.2.1
   rules:=h.2.2.2.1.2.1
   fv:=h.2.2.2.2.2.1.2.1
   nb:=fun x hx=>⟨(h.2.2.1.2.2 x hx).2.2.2.2.1.2.1,fun f hf=>((h.2.2.1.2.2 x hx).2.2.2.2.1.2.2 f hf).2.1.2.2.2.2.2.1.2.1⟩
   rl:=fun r hr=>⟨(h.2.2.2.1.2.2 r hr).2.2.1.2.1,(h.2.2.2.1.2.2 r hr).2.2.2.1.2.1,(h.2.2.2.1.2.2 r hr).2.2.2.2.1.1⟩
   may:=fun p hp=>(h.2.2.2.2.2.1.2.2 p hp).2.1.2.1}
theorem Fw{k:Pl}{x:In}:∀{m:List (Pl×In)},(m.map (·.1)).Nodup→(k,x)∈m→aQ aF bN k m=x∧cC aF k m=true
 |[],_,h=>by cases h
 |
  e::m,hn,h=>by
  simp only[d8,mr] at hn
  rcases List.mem_cons.1 h with h|h
  ·subst h
   have e1:bD aF k k=true:=(fy aF k k).2 rfl
   exact⟨by simp only[aQ,e1,bU],by simp only[cC,e1,Bool.true_or]⟩
  ·obtain⟨h1,h2⟩:=Fw hn.2 h
   have e1:¬bD aF k e.1=true:=fun hh=>hn.1 (by
    rw[←(fy aF k e.1).1 hh]
    exact List.mem_map.2 ⟨_,h,rfl⟩)
   exact⟨by simp only[aQ,e1];exact h1,by simp only[cC,h2,Bool.or_true]⟩
theorem Nm{A R:Type}{q:DecidableEq R}{xs:List A}{K:A→List A→Option R}{r:R}(hne:xs≠[])(h:∀i(hi:i<xs.length),K xs[i] (xs.eraseIdx i)=some r):uW xs K=some r:=by
 match xs,hne,h with
 |
  x::l,_,h=>
  have h0:K x l=some r:=h 0 (by simp)
  simp only[uW,h0]
  rw[aA]
  refine List.all_eq_true.2 fun i hi=>?_
  have hi':i+1<(x::l).length:=by have:=List.mem_range.1 hi;simpa using this
  rw[mq hi']
  exact cS (h (i+1) hi')
theorem W0:zE []=some []:=by kernel_rfl
theorem kX{m:List (Pl×In)}{n:Nat}(h:MG m n):HY (some m) (some m)=some []:=by
 have hB:=hB
 have key:∀(n:Nat)(es:List (Pl×In)),es.length<n→(∀e∈es,e∈m)→tW n (some m,es,[])=some []:=by
  intro n
  induction n with
  |zero=>intro es h;omega
  |
   succ n ih=>
   intro es hn hes
   unfold tW at ih ⊢
   rw[aN]
   generalize aK _ n=rec at ih ⊢
   dsimp only
   cases es with
   |
    nil=>
    rw[aA (show List.isEmpty ([]:List (Pl×In))=true from rfl),W0]
    rfl
   |
    cons e0 l0=>
    rw[aC (by simp)]
    refine Nm (by simp) fun i hi=>?_
    have he:(e0::l0)[i]∈m:=hes _ (iQ hi)
    have hl:((e0::l0).eraseIdx i).length<n:=by
     rw[List.length_eraseIdx_of_lt hi]
     omega
    have anq:∀e∈(e0::l0).eraseIdx i,e∈m:=fun e h'=>hes e (List.mem_of_mem_eraseIdx h')
    generalize (e0::l0)[i]=e at he
    generalize (e0::l0).eraseIdx i=l at hl anq
    obtain⟨k,x⟩:=e
    obtain⟨g1,g2⟩:=Fw h.n6 he
    have hv:x.2.2.2.1.length≤1000:=h.Tb _ he
    have q1:(if(!(cC aF (k,x).1 (bE (some m))))=true then(some true) else(Option.bind (MH (k,x).2.2.2.2.1 (((((aQ aF bN (k,x).1 (bE (some m))).2).2).2).1)) fun y6=>some (!y6)))=some false:=by
     rw[aC (by show¬(!cC aF k m)=true;rw[g2];decide)]
     show Option.bind (MH x.2.2.2.1 (aQ aF bN k m).2.2.2.1) _=_
     rw[g1,xA _ _ (by omega),aL,cS rfl]
     rfl
    rw[q1,aL,aC (by decide)]
    exact ih l hl anq
 exact key _ m (Nat.lt_succ_self _) fun _ h=>h
theorem R4(g:Int)(a2 a3:Option (List (Pl×In)))(a4:Zg)(a5:bL)(a6:Zc)(a7 a8:Int)(a9:Bool)(a10:DM)(a11:Unit)(a12:FM)(a13:SM)(a14:List Rd):
 AX g [] a2 a3 a4 a5 a6 a7 a8 a9 a10 a11 a12 a13 a14=some ([],a2,a3,a4,a5,a6,a7,a8,a9,a10,a11,a12,a13,a14):=by kernel_rfl
section
variable{w:bL} {P:Zg}
theorem uz(hs:SA w.1.1)(hT:FT w.1.1)(hf:w.2.1.length≤60)(hP:P.length≤4)(d b a:Int)(h:C3 w.1=some 0→mapA w w.1.2.1 P d b=mapA w w.1.2.1 P d a):V2 w P d b a=some []:=by
 unfold V2 Ff Fg
 rcases uy hs hT hf hP d b a with⟨e1,e2⟩|⟨e2,hcg,er,o,ix,fo,se,rs,e1,_⟩
 ·rw[e1,e2]
  rfl
 ·have hg:=yL hs hT hf hcg er P d a
  rw[e1,e2,h er,aL]
  dsimp only
  unfold lL
  rw[aC (by decide),kX hg]
  rfl
theorem xC(hs:SA w.1.1)(hT:FT w.1.1)(hf:w.2.1.length≤60)(hP:P.length≤4)(d b a:Int)(h:C3 w.1=some 0→mapA w w.1.2.1 P d b=mapA w w.1.2.1 P d a):f9 w P d b a=some []:=by
 unfold f9 Mi Mj
 rcases uy hs hT hf hP d b a with⟨e1,e2⟩|⟨e2,hcg,er,o,ix,fo,se,rs,e1,_⟩
 ·rw[e1,e2]
  rfl
 ·have hg:=yL hs hT hf hcg er P d a
  rw[e1,e2,h er,aL]
  dsimp only
  unfold lL po
  rw[aC (by decide),kX hg,aL,aL]
  dsimp only
  have l6:∀(z:bL×Ix×Int×Int×Bool×DM×Unit)(o:Zg)(y1 y2:Option (List (Pl×In)))(rs:List Rd)(fo:FM)(se:SM),CO (Int.toNat (List.length ([]:List In):Int)+1) ([],(List.length ([]:List In):Int),0,o,z.1,z.2.1,z.2.2.1,z.2.2.2.1,z.2.2.2.2.1,z.2.2.2.2.2.1,z.2.2.2.2.2.2,y1,y2,rs,fo,se,[])=some (.bA (o,z.1,z.2.1,z.2.2.1,z.2.2.2.1,z.2.2.2.2.1,z.2.2.2.2.2.1,z.2.2.2.2.2.2,y1,y2,rs,fo,se,[])):=fun _ _ _ _ _ _ _=>rfl
  rw[l6 (w,some ix,d,a,true,dM w,()),aI]
  dsimp only
  rw[kX hg,aL,aL]
  dsimp only
  have l11:∀(z:bL×Ix×Int×Int×Bool×DM×Unit)(o:Zg)(y1 y2:Option (List (Pl×In)))(rs:List Rd)(fo:FM)(se:SM),yy (Int.toNat (List.length ([]:List In):Int)+1) ([],(List.length ([]:List In):Int),0,o,z.1,z.2.1,z.2.2.1,z.2.2.2.1,z.2.2.2.2.1,z.2.2.2.2.2.1,z.2.2.2.2.2.2,y1,y2,rs,fo,se,[],[])=some (.bA (o,z.1,z.2.1,z.2.2.1,z.2.2.2.1,z.2.2.2.2.1,z.2.2.2.2.2.1,z.2.2.2.2.2.2,y1,y2,rs,fo,se,[],[])):=fun _ _ _ _ _ _ _=>rfl
  rw[l11 (w,some ix,d,a,true,dM w,()),aI]
  dsimp only
  rw[R4,aL]
  dsimp only
  rw[R4,aL]
  rfl
theorem Hn{w:bL}(hf:w.2.1.length≤60){α:Type}(x:Qy α)(d b a:Int)(h:∀q∈da [] (x.run (Oa w d b)).2,IS w.2.1 b a q):x.run (Oa w d a)=x.run (Oa w d b):=
 Nl x d b a fun r hr g1 d0 d1 g2=>by
  have hw:aZ (d+(1:Int))=d+1:=fT (by omega) (by omega)
  have ed:((d.toNat:Nat):Int)=d:=by omega
  have:=(h r ((mn ..).2 (Or.inr hr))).at' (by omega) (dy:=d.toNat) (by omega) (by omega) (by rw[g2,hw];omega)
  rw[ed] at this
  exact this.symm
theorem Ho(hf:w.2.1.length≤60)(d b a:Int)(h:∀p∈P,∀q∈da [] ((AQ w w.1.2.1 0 p d).run (Oa w d b)).2,IS w.2.1 b a q):mapA w w.1.2.1 P d b=mapA w w.1.2.1 P d a:=by
 have key:∀(P:Zg)(acc:List (Pl×In)),(∀p∈P,AL w w.1.2.1 p d b=AL w w.1.2.1 p d a)→P.foldl (fun acc p=>(AL w w.1.2.1 p d b).foldl qZ acc) acc=P.foldl (fun acc p=>(AL w w.1.2.1 p d a).foldl qZ acc) acc:=by
  intro P
  induction P with
  |nil=>intro acc _;rfl
  |
   cons p P ih=>
   intro acc hp
   rw[List.foldl_cons,List.foldl_cons,hp p (dE ..)]
   exact ih _ fun p h=>hp p (d7 _ h)
 refine key P [] fun p hp=>?_
 unfold AL
 rw[Hn hf _ d b a (h p hp)]
theorem Nn(hs:SS w.1.1)(P:Zg):∃r,G5 w P=some r∧(r=true→FT w.1.1∧w.2.1.length≤60∧P.length≤4):=by
 obtain⟨r,e,hr⟩:=Nf w hs
 unfold G5
 rw[e,aL]
 cases r with
 |false=>exact⟨false,rfl,fun h=>(by cases h)⟩
 |
  true=>
  rw[aA rfl]
  by_cases h4:(P.length:Int)≤4
  ·rw[cU h4]
   exact⟨true,rfl,fun _=>⟨(hr rfl).1,(hr rfl).2,by omega⟩⟩
  ·rw[aC (by simpa using h4)]
   exact⟨false,rfl,fun h=>(by cases h)⟩
theorem w7(w:bL)(hs:SA w.1.1)(P:Zg)(d b a:Int):f6 w P d b a=some true:=by
 have hB:=hB
 unfold f6
 rw[RR,aL,aC (by decide)]
 obtain⟨r,e,hr⟩:=Nn (w:=w) hs.ss P
 rw[e,aL]
 cases r with
 |false=>rfl
 |
  true=>
  obtain⟨hT,hf,hP⟩:=hr rfl
  rw[aC (by decide),uz hs hT hf hP d b b (fun _=>rfl),aL,aC (by decide),xC hs hT hf hP d a a (fun _=>rfl),aL]
  rw[aL,aC (by decide),aI]
  dsimp only
  obtain⟨r0,er,hcg⟩:=Bw hs
  have hloop:W (Mq (Int.toNat (P.length:Int)+1) (P,d,b,a,P,(P.length:Int),0,w,([]:List Rd))) (fun r=>∃h:List Rd,r= .bA (P,d,b,a,w,h)∧h.length≤8800000∧∀p∈P,∀q∈da [] ((AQ w w.1.2.1 r0 p d).run (Oa w d b)).2,q∈h):=by
   refine cP (L:=Mq) rfl _ P.length (fun c(s:List Rd)=>(P,d,b,a,P,(P.length:Int),(c:Int),w,s)) (fun c s=>s.length≤2200000*c∧∀p∈P.take c,∀q∈da [] ((AQ w w.1.2.1 r0 p d).run (Oa w d b)).2,q∈s) ?step ?stop _ 0 [] (by omega) (by omega) ⟨gL _,fun p hp=>(by cases hp)⟩
   case step=>
    rintro rec c s hc ⟨h1,h2⟩ kk
    obtain⟨a1,_,_,a4⟩:=R0 hs hT hf er hcg P[c] d b
    dsimp only
    rw[cU (by omega),eN c,aA (by omega),dg (t:=.int .i64) hc,a1,aL]
    dsimp only
    rw[aA (by omega),bG (by omega)]
    refine kk _ ⟨by rw[ep];omega,fun p hp q hq=>?_⟩
    rw[List.take_succ_eq_append_getElem hc] at hp
    rcases List.mem_append.1 hp with hp|hp
    ·exact iP _ (h2 p hp q hq)
    ·rw[List.mem_singleton.1 hp] at hq
     exact jc _ hq
   case stop=>
    rintro rec s ⟨h1,h2⟩
    dsimp only
    rw[gn (by omega)]
    rw[List.take_length] at h2
    exact⟨_,rfl,s,rfl,by omega,h2⟩
  obtain⟨_,el,h,rfl,hl,hm⟩:=hloop
  rw[el,aI]
  dsimp only
  obtain⟨y,ey,hy⟩:=Jm w.2.1 (by omega) h (by omega) b a
  rw[ey,aL]
  cases y with
  |false=>rfl
  |
   true=>
   have hsame:C3 w.1=some 0→mapA w w.1.2.1 P d b=mapA w w.1.2.1 P d a:=fun h0=>by
    rw[er] at h0
    cases h0
    exact Ho hf d b a fun p hp q hq=>hy rfl q (hm p hp q hq)
   rw[aC (by decide),uz hs hT hf hP d b a hsame,aL,aA (by decide),xC hs hT hf hP d b a hsame]
   rfl
end
theorem pl6(a0:bL)(a1:Zg)(a2 a3 a4:Int)(af0:wf fX a0)(_af1:wf (.slice 8 (.int .i64)) a1)(_af2:wf (.int .i64) a2)(_af3:wf (.int .i64) a3)(_af4:wf (.int .i64) a4):f6 a0 a1 a2 a3 a4=some true:=
 w7 a0 (WZ af0.1.1) a1 a2 a3 a4
end Go.Proofs.YtpmlkhjpbjnagaaGreat
