/- part -/
import Derived.Test.YtpmlkhjpbjnagaaGreatP1
import Derived.Test.YtpmlkhjpbjnagaaGreatUL
import Derived.Test.YtpmlkhjpbjnagaaGreatA5
import Derived.Test.YtpmlkhjpbjnagaaGreatFB
import Derived.Test.YtpmlkhjpbjnagaaGreatF8
import Derived.Test.YtpmlkhjpbjnagaaGreatF9
import Derived.Test.YtpmlkhjpbjnagaaGreatFA
import Derived.Test.YtpmlkhjpbjnagaaGreatS2
noncomputable section
namespace Go.Proofs.YtpmlkhjpbjnagaaGreat
open Go.Ax
theorem EC{t:dH}{n:Int}(h:f260 t n=some true):t.2.2.2.2.1= -1:=by
 unfold f260 at h
 grind
theorem ED{t:dH}{n:Int}(h:f261 t n=some true):t.2.2.2.2.1= -1:=by
 unfold f261 at h
 grind
theorem EE{t:dH}{n:Int}(h:f262 t n=some true):t.2.2.2.2.1= -1:=by
 unfold f262 at h
 grind
theorem idB{x:Zm}{b:Bool}(h:(Option.bind x fun y=>some y)=some b):x=some b:=by
 grind
theorem Jd{c:dz}{t:dH}(h:f168 c t=some true):t.2.2.2.2.1<(c.1.2.1.length:Int):=by
 have neg:t.2.2.2.2.1= -1→t.2.2.2.2.1<(c.1.2.1.length:Int):=fun e=>by omega
 by_cases e1:t.1=1
 ·exact(um h e1).2
 ·unfold f168 at h
  by_cases h1:t.1<1
  ·rw[cz h1] at h;cases h
  ·by_cases h2:(4:Int)<t.1
   ·rw[aC (by grind),cE h2] at h;cases h
   ·rw[aC (by grind),du h2,aM,aC (by decide),aG] at h
    dsimp only at h
    rw[aA (by omega),aA (by omega),aC (by omega),aC e1] at h
    by_cases e2:t.1=2
    ·rw[aA e2] at h;exact neg (EC (idB h))
    ·rw[aC e2] at h
     by_cases e3:t.1=3
     ·rw[aA e3] at h;exact neg (ED (idB h))
     ·rw[aC e3,aA (by omega)] at h;exact neg (EE (idB h))
theorem EF(c:dz)(hN:NB c.1)(r:pZ):∃b y,f254 c r=some (b,y)∧(b=true→y.2.2.2.2.1<(c.1.2.1.length:Int)):=by
 unfold f254
 rcases lk c r.2.2.1 r.2.2.2.1 with⟨hi,e⟩|⟨_,y,e⟩
 ·rw[e,aM]
  dsimp only
  rw[aC (by decide)]
  have hm:=hi.mem
  obtain⟨q,hq⟩:=qd c (nth bP (cC c.1 r.2.2.1) r.2.2.2.1).2.1 ((hN _ hm.1).2 _ hm.2)
  rw[hq,aM]
  cases q with
  |false=>grind
  |
   true=>
   rw[aC (by decide)]
   have hu:=Jd hq
   by_cases h0:0≤(nth bP (cC c.1 r.2.2.1) r.2.2.2.1).2.1.2.2.2.2.1
   ·rw[cz h0,aA h0,aA hu]
    obtain⟨z,hz⟩:=qe c (nth aU c.1.2.1 (nth bP (cC c.1 r.2.2.1) r.2.2.2.1).2.1.2.2.2.2.1)
    grind
   grind
 grind
theorem Kx(s:cu)(hN:NB s)(r:pZ)(n:Int):∃p,f219 s r n=some p:=by
 unfold f219
 obtain⟨b,y,e,hu⟩:=EF (s,()) hN r
 rw[e,aM]
 dsimp only
 cases b with
 |false=>exact⟨_,rfl⟩
 |
  true=>
  rw[aC (by decide)]
  by_cases h1:n<0
  ·rw[cz h1];exact⟨_,rfl⟩
  ·rw[aC (show¬decide (n<(0:Int))=true by grind)]
   by_cases h2:(1048576:Int)<n
   ·rw[cE h2];exact⟨_,rfl⟩
   ·rw[du h2,aM,aC (by decide),aG]
    dsimp only
    by_cases h0:0≤y.2.2.2.2.1
    ·simp_all
    ·rw[aC (show¬decide ((0:Int)≤y.2.2.2.2.1)=true by grind)];grind
theorem mC(a b c:Int):∃r,f220 a b c=some r:=by
 unfold f220
 repeat' (first|exact⟨_,rfl⟩|split)
def FV(s:cu)(PS:Ze)(x:mq)(a:Int):Prop:=x.2.2.2.1.length=(cC s a).length∧∀v∈x.2.2.2.1,v∈PS
structure LI(s:cu)(PS:Ze)(u:dt)(l:Zl):Prop where
 len:l.length≤u.2.2.1.length
 ok:∀x:Int,0≤x→x<(l.length:Int)→FV s PS (nth bp l x) (nth aQ u.2.2.1 x).2.2.1
theorem LI.nil(s:cu)(PS:Ze)(u:dt):LI s PS u []:=⟨gY _,fun x h0 h1=>by grind⟩
theorem LI.push{s:cu}{PS:Ze}{u:dt}{l:Zl}(h:LI s PS u l){x:mq}(hl:l.length<u.2.2.1.length)(hx:FV s PS x (nth aQ u.2.2.1 (l.length:Int)).2.2.1):LI s PS u (l++[x]):=by
 refine⟨by grind,fun j h0 h1=>?_⟩
 rw[kG,kJ] at h1
 have e:j=(j.toNat:Int):=by omega
 by_cases hj:j<(l.length:Int)
 ·have h2:=h.ok j h0 hj
  rw[e,cK (t:=bp) (by grind),List.getElem_append_left (by omega)]
  rw[e,cK (t:=bp) (by omega)] at h2
  exact h2
 ·have ej:j.toNat=l.length:=by omega
  have ej':j=(l.length:Int):=by omega
  rw[ej',cK (t:=bp) (by grind),List.getElem_append_right (dP _)]
  grind
abbrev cR(s:cu)(u:dt):fJ:=((s,()),(u,()))
theorem yD{s:cu}{PS:Ze}{u:dt}{l:Zl}(hL:LI s PS u l){t:gU}{n:Int}(hn:n≤(l.length:Int))(h:Tx (cR s u) t n):
 0≤t.2.2.1∧t.2.2.1<(l.length:Int)∧0≤t.2.2.2.1∧t.2.2.2.1<((nth bp l t.2.2.1).2.2.2.1.length:Int)∧nth (.int .i64) (nth bp l t.2.2.1).2.2.2.1 t.2.2.2.1∈PS:=by
 have hv:t.2.2.1<(l.length:Int):=Int.lt_of_lt_of_le h.v1 hn
 obtain⟨h1,h2⟩:=hL.ok _ h.v0 hv
 have hb:=h.f.b1
 have hb:t.2.2.2.1<((nth bp l t.2.2.1).2.2.2.1.length:Int):=by grind
 exact⟨h.v0,hv,h.f.b0,hb,h2 _ (dc (t:=.int .i64) h.f.b0 hb)⟩
theorem Og{s:cu}{PS:Ze}{u:dt}{l:Zl}(hL:LI s PS u l)(hl:l.length=u.2.2.1.length){t:gU}(ht:yv (cR s u) t):
 ∃v,f166 t l=some v∧(v∈PS∨t.2.2.1= -1∧v=t.2.2.2.2.1):=by
 unfold f166
 by_cases h:t.2.2.1= -1
 ·grind
 ·rcases ht with hi|hi
  ·obtain⟨a1,a2,a3,a4,a5⟩:=yD hL (by grind) hi
   grind
  grind
theorem Cw(day:Int){L:Zz}:∀(l:Zz)(s:gM×Bool),(∀f∈l,f∈L)→(s.2=true→s.1∈L)→((l.foldl (na day) s).2=true→(l.foldl (na day) s).1∈L)
 |[],s,_,hs=>hs
 |
  f::l,s,hl,hs=>by
  rw[List.foldl_cons]
  refine Cw day l _ (fun x hx=>hl x (dj _ hx)) ?_
  unfold na
  split
  ·exact fun _=>hl f (cm ..)
  ·exact hs
theorem Oh{l:Zz}{k:cN}{day known:Int}(h:(uw l k day known).2=true):∃f∈l,f.2.1=(uw l k day known).1:=by
 have hm:=Cw day (L:=l) (l.filter (lA k known)) (zF,false) (fun x hx=>(List.mem_filter.1 hx).1) (fun h=>by cases h)
 have e:(l.filter (lA k known)).foldl (na day) (zF,false)=lB k day known l (zF,false):=rfl
 rw[e] at hm
 unfold uw at h ⊢
 grind
theorem EG(l:Zz)(k:cN)(day known:Int)(hl:l.length≤aH):∃v b,yY l k day known=some (v,b)∧(b=true→∃f∈l,f.2.1=v):=by
 unfold yY
 rw[aA hl]
 exact⟨_,_,rfl,Oh⟩
theorem mD(s:cu)(hr:s.2.2.2.1.length≤aH)(a:Int):∃b,f117 s a=some b∧(b=true→0≤a∧a<(s.2.2.1.length:Int)∧2≤(cC s a).length):=by
 have hB:=hB
 have no:∀y:Zm,y=some false→∃r,y=some r∧(r=true→0≤a∧a<(s.2.2.1.length:Int)∧2≤(cC s a).length):=fun y hy=>⟨false,hy,fun h=>(by cases h)⟩
 unfold f117
 by_cases h0:a<0
 ·rw[cz h0];exact no _ rfl
 ·rw[aC (show¬decide (a<(0:Int))=true by grind)]
  by_cases h1:(s.2.2.1.length:Int)≤a
  ·rw[cz h1];exact no _ rfl
  ·rw[aC (show¬decide ((s.2.2.1.length:Int)≤a)=true by grind),aA (Int.not_lt.1 h0),aA (Int.not_le.1 h1)]
   have e:(nth bF s.2.2.1 a).2.2.2.2.1=cC s a:=rfl
   rw[e]
   by_cases h2:((cC s a).length:Int)<2
   ·rw[cE h2];exact no _ rfl
   ·rw[du h2,aM,aC (by decide),aG]
    dsimp only
    have yes:∀y:Zm,(∃z,y=some z)→∃z,y=some z∧(z=true→0≤a∧a<(s.2.2.1.length:Int)∧2≤(cC s a).length):=fun y ⟨z,hz⟩=>⟨z,hz,fun _=>⟨Int.not_lt.1 h0,Int.not_le.1 h1,by omega⟩⟩
    apply yes
    suffices hW:W (aI (U:=Int×Zu) (Aj (Int.toNat (s.2.2.2.1.length:Int)+1) (a,s.2.2.2.1,(s.2.2.2.1.length:Int),0,([]:Zu))) (fun x=>some (!(aP (.int .i64) .bool x.1 x.2)))) (fun _=>True) by
     obtain⟨r,hr,_⟩:=hW
     grind
    refine bL.2 (W.ct (bX (L:=Aj) rfl (CT (fun _=>True) fun _=>True) s.2.2.2.1.length (fun c(d:Zu)=>(a,s.2.2.2.1,(s.2.2.2.1.length:Int),(c:Int),d)) (fun c d=>d.length≤c) ?step ?stop _ 0 [] (by omega) (by omega) (dP _)) (fun d h=>⟨_,rfl,trivial⟩) fun r h=>trivial)
    case step=>
     intro rec c d hc hd kk
     dsimp only
     have hw2:=nY c (by omega)
     rw[cz (by omega),dV c,aA (show(c:Int)<(s.2.2.2.1.length:Int) by omega),aA (show d.length+1≤aH by omega),hw2]
     grind [dy]
    case stop=>
     intro rec d hd
     dsimp only
     rw[aC (by grind)]
     exact⟨_,rfl,trivial⟩
theorem EH{PS:Ze}(v:bz)(s:cu)(hN:NB s)(hl:v.2.1.length≤aH)(hPS:∀f∈v.2.1,f.2.1∈PS)(m a p i d k:Int)(rs:Zh)(hr:(rs.length+1)*40≤aH):
 ∃c b rs',oB m a p i d v k s rs=some (c,b,a,p,i,d,v,k,s,rs')∧rs'.length=rs.length+1∧(b=true→c∈PS):=by
 unfold oB f120
 rw[aM,aA (by grind)]
 obtain⟨x,b,e,hb⟩:=EG v.2.1 (a,(p,(bq ((bq ((16:Int)*i))+m),()))) d k hl
 rw[e,aM]
 dsimp only
 cases b with
 |false=>exact⟨_,false,_,rfl,by grind,fun h=>(by cases h)⟩
 |
  true=>
  obtain⟨f,hf,rfl⟩:=hb rfl
  obtain⟨q,hq⟩:=tu s hN a m f.2.1
  rw[aA rfl,hq]
  exact⟨_,q,_,rfl,by grind,fun _=>hPS f hf⟩
theorem Kz{PS:Ze}(v:bz)(hN:NB v.1.1)(hR:v.1.1.2.2.2.1.length≤aH)(hF:∀a,0≤a→a<(v.1.1.2.2.1.length:Int)→(cC v.1.1 a).length≤1000)(hl:v.2.1.length≤aH)(hPS:∀f∈v.2.1,f.2.1∈PS)(a p i d k:Int)(hp:p∈PS):
 W (f87 v a p i d k) fun r=>r.2.2.length≤1000∧(r.1=true→FV v.1.1 PS r.2.1 a):=by
 have hB:=hB
 unfold f87
 obtain⟨b,e,hb⟩:=mD v.1.1 hR a
 rw[e,aM]
 have no:∀(z:mq),(([]:Zh).length≤1000∧((false:Bool)=true→FV v.1.1 PS z a)):=fun z=>⟨gY _,fun h=>(by cases h)⟩
 cases b with
 |false=>exact⟨_,rfl,no _⟩
 |
  true=>
  obtain⟨a0,a1,a2⟩:=hb rfl
  rw[aC (by decide)]
  have hs:∃z,f118 p i=some z:=by
   unfold f118
   grind
  obtain⟨z,hz⟩:=hs
  rw[hz,aM]
  cases z with
  |false=>exact⟨_,rfl,no _⟩
  |
   true=>
   rw[aC (by decide)]
   by_cases d0:d<0
   ·rw[cz d0];exact⟨_,rfl,no _⟩
   ·rw[aC (show¬decide (d<(0:Int))=true by grind)]
    by_cases d1:(1024:Int)≤d
    ·rw[cE d1];exact⟨_,rfl,no _⟩
    ·rw[du d1,aM,aC (by decide),aG]
     dsimp only
     have hFa:=hF a a0 a1
     have e:(nth bF v.1.1.2.2.1 a).2.2.2.2.1=cC v.1.1 a:=rfl
     refine bL.2 (W.ct (bX (L:=Gn) rfl (CT (fun r=>∃t s,r=(a,p,i,0,0,0,t,s)∧s.length≤1000∧t.length=(cC v.1.1 a).length∧∀x∈t,x∈PS) fun r=>r.1=false∧r.2.2.length≤1000) (cC v.1.1 a).length (fun c(u:Ze×Zh)=>((c:Int),v,a,p,i,d,k,0,0,0,v.1.1,u.1,u.2)) (fun c u=>u.1.length=c∧u.2.length≤c∧∀x∈u.1,x∈PS) ?step ?stop iB 1 ([p],[]) (by show _<18446744073709551616;omega) (by omega) ⟨rfl,gY _,fun x hx=>(by grind)⟩) (fun r h=>?_) fun r h=>?_)
     case step=>
      rintro rec c ⟨t,s⟩ hc ⟨ht,hs,hP⟩ kk
      dsimp only at ht hs hP ⊢
      have hw2:=nY c (by omega)
      rw[e,aA a0,aA a1,cz (by omega)]
      obtain⟨x,b,s',e2,hs',hx⟩:=EH v v.1.1 hN hl hPS (c:Int) a p i d k s (by omega)
      rw[e2,aM]
      dsimp only
      cases b with
      |false=>exact⟨_,rfl,rfl,by grind⟩
      |
       true=>
       rw[aC (by decide),aA (show(t.length+List.length [x])*8≤aH by grind),hw2]
       refine kk (t++[x],s') ⟨by rw[kG,kJ,ht],by show s'.length≤c+1;omega,fun y hy=>?_⟩<;>grind
     case stop=>
      rintro rec ⟨t,s⟩ ⟨ht,hs,hP⟩
      dsimp only at ht hs hP ⊢
      rw[e,aA a0,aA a1,aC (by grind)]
      exact⟨_,rfl,t,s,rfl,by omega,ht,hP⟩
     ·obtain⟨t,s,rfl,h1,h2,h3⟩:=h
      exact⟨_,rfl,h1,fun _=>⟨h2,h3⟩⟩
     grind
theorem rW:∀(rs:Zh)(se:Zd)(acc:Zh),se.length+rs.length≤aH→(acc.length+rs.length)*40≤aH→∃s' a',jU rs se acc=some (s',a')∧s'.length≤se.length+rs.length∧a'.length≤acc.length+rs.length
 |[],se,acc,_,_=>⟨se,acc,rfl,dP _,dP _⟩
 |
  r::rs,se,acc,h1,h2=>by
  rw[gP] at h1 h2 ⊢
  unfold jU
  split
  ·obtain⟨s',a',e,q1,q2⟩:=rW rs se acc (by omega) (by omega)
   grind
  ·have hm:(aZ aR r true se).length≤se.length+1:=dy
   rw[aA (by omega),aA (by omega)]
   obtain⟨s',a',e,q1,q2⟩:=rW rs (aZ aR r true se) (acc++[r]) (by omega) (by grind)
   grind
abbrev Pl:=cN
abbrev FM:=Zf
abbrev SM:=Zd
abbrev DM:=Zc
def IX(PS:Ze)(ix:Ix):Prop:=∀key,(aP aK (.slice 64 bJ) key (aX ix)).length≤1000000∧∀f∈aP aK (.slice 64 bJ) key (aX ix),f.2.1∈PS
structure WX(w:bz)(lo:Ze)(PS:Ze)(U:List Pl)(ix:Ix):Prop where
 cg:CG w.1.1 lo
 zero:(0:Int)∈PS
 consts:∀u∈w.1.1.2.2.2.1,∀t∈u.2.2.2.2.1,t.2.2.1.2.2.2.2.1∈PS
 pl:∀a p i:Int,0≤a→a<(w.1.1.2.2.1.length:Int)→p∈PS→0≤i→i<4→(a,(p,(i,())))∈U
 len:U.length≤1000000
 fl:∀a,0≤a→a<(w.1.1.2.2.1.length:Int)→(cC w.1.1 a).length≤1000
 ix:IX PS ix
structure WY(w:bz)(PS:Ze)(U:List Pl)(ix:Ix):Prop where
 sw:SW w.1.1
 len:U.length≤1000000
 fl:∀a,0≤a→a<(w.1.1.2.2.1.length:Int)→(cC w.1.1 a).length≤1000
 ix:IX PS ix
variable{w:bz}{lo:Ze}{ix:Ix}{U:List Pl}
theorem WX.y{PS:Ze}(h:WX w lo PS U ix):WY w PS U ix:=⟨h.cg.sw,h.len,h.fl,h.ix⟩
structure FI(s:cu)(PS:Ze)(U:List Pl)(fo:FM)(se:SM)(rs:Zh):Prop where
 i7:(fo.map (·.1)).Nodup
 sub:∀e∈fo,e.1∈U
 ok:∀e∈fo,e.2.2.2.2.1=true→FV s PS e.2.1 e.1.1
 se:se.length≤1000*fo.length
 rs:rs.length≤1000*fo.length
variable{α:Type}
theorem yE:∀(l L:List α),l.Nodup→(∀x∈l,x∈L)→l.length≤L.length:=by
 classical
 intro l
 induction l with
 |nil=>grind
 |
  cons a l ih=>
  intro L hn hs
  have ha:=hs a (cm ..)
  have h:=ih (L.erase a) (List.nodup_cons.1 hn).2 fun x hx=>(List.mem_erase_of_ne (fun e:x=a=>(List.nodup_cons.1 hn).1 (e▸hx))).2 (hs x (dj _ hx))
  grind
variable{fo:FM}{se:SM}
theorem FI.len{s:cu}{PS:Ze}{rs:Zh}(h:FI s PS U fo se rs):fo.length≤U.length:=by
 have:=yE _ U h.i7 fun x hx=>by
  obtain⟨e,he,rfl⟩:=List.mem_map.1 hx
  exact h.sub e he
 grind
variable{kt:Ty}
theorem Hi{k:kt.den}{y:α}:∀{es:List (kt.den×α)},es.length≤(aZ kt k y es).length
 |[]=>gY _
 |
  e::es=>by
  unfold aZ
  split
  ·grind
  ·rw[gP,gP];exact Nat.succ_le_succ Hi
variable{se':SM}
theorem FI.put{s:cu}{PS:Ze}{rs:Zh}(h:FI s PS U fo se rs){p:Pl}(hp:p∈U){x:N6}(hx:x.2.2.2.1=true→FV s PS x.1 p.1){rs':Zh}
 (h1:se'.length≤1000*(aZ aK p x fo).length) (h2:rs'.length≤1000*(aZ aK p x fo).length):FI s PS U (aZ aK p x fo) se' rs' where
 i7:=cU (kt:=aK) rfl h.i7
 sub e he:=by
  rcases fq (kt:=aK) he with rfl|he
  ·exact hp
  ·exact h.sub e he
 ok e he:=by
  rcases fq (kt:=aK) he with rfl|he
  ·exact hx
  ·exact h.ok e he
 se:=h1
 rs:=h2
theorem FI.nil(s:cu)(PS:Ze)(U:List Pl):FI s PS U [] [] []:=
 ⟨List.nodup_nil,fun e he=>(by cases he),fun e he=>(by cases he),dP _,dP _⟩
theorem Cy{PS:Ze}(hw:WY w PS U ix)(p:Pl)(d k:Int)(b:Bool)(m:DM)(z:Unit)(fo:FM)(se:SM)(rs:Zh):
 ∃L:Zz,gG p w ix d k b m z fo se rs=some (w,ix,d,k,b,m,z,fo,se,rs,(w.1,(L,())))∧L.length≤1000*1000000∧∀f∈L,f.2.1∈PS:=by
 have hB:=hB
 suffices hW:W (gG p w ix d k b m z fo se rs) fun r=>∃L:Zz,r=(w,ix,d,k,b,m,z,fo,se,rs,(w.1,(L,())))∧L.length≤1000*1000000∧∀f∈L,f.2.1∈PS by
  obtain⟨r,e,L,rfl,h⟩:=hW
  grind
 have nil:∀f∈([]:Zz),f.2.1∈PS:=fun f hf=>(by cases hf)
 unfold gG
 by_cases h0:0≤p.1
 ·rw[cz h0]
  by_cases h1:p.1<(w.1.1.2.2.1.length:Int)
  ·rw[cE h1,aM,aA rfl,aA h0,aA h1]
   have e:(nth bF w.1.1.2.2.1 p.1).2.2.2.2.1=cC w.1.1 p.1:=rfl
   have hF:=hw.fl _ h0 h1
   rw[e]
   refine bL.2 (W.ct (bX (L:=kE) rfl (CT (fun r=>∃L:Zz,r=(w,ix,d,k,b,m,z,fo,se,rs,w.1,L)∧L.length≤1000*1000000∧∀f∈L,f.2.1∈PS) fun _=>False) (cC w.1.1 p.1).length (fun c(L:Zz)=>(((cC w.1.1 p.1).length:Int),(c:Int),w,ix,d,k,b,m,z,fo,se,rs,p,w.1,L)) (fun c L=>L.length≤c*1000000∧∀f∈L,f.2.1∈PS) ?step ?stop _ 0 [] (by omega) (by omega) ⟨gY _,nil⟩) (fun r h=>?_) fun r h=>?_)
   case step=>
    rintro rec c L hc ⟨hL,hP⟩ kk
    dsimp only
    have hw2:=nY c (by omega)
    obtain⟨q1,q2⟩:=hw.ix (p.1,(p.2.1,(bq ((bq ((16:Int)*p.2.2.1))+(c:Int)),())))
    grind
   case stop=>
    rintro rec L ⟨hL,hP⟩
    dsimp only
    rw[aC (by grind)]
    exact⟨_,rfl,L,rfl,dh hL (ji _ hF),hP⟩
   ·obtain⟨L,rfl,h⟩:=h
    exact⟨_,rfl,L,rfl,h⟩
   grind
  ·rw[du h1];exact⟨_,rfl,[],rfl,gY _,nil⟩
 ·rw[aC (show¬decide ((0:Int)≤p.1)=true by grind)];exact⟨_,rfl,[],rfl,gY _,nil⟩
def PL(w:bz)(PS:Ze)(U:List Pl)(ix:Ix)(d k:Int)(b:Bool)(m:DM)(z:Unit)(p:Pl)(r:bz×Ix×Int×Int×Bool×DM×Unit×FM×SM×N6×List qa):Prop:=
 ∃fo se x rs,r=(w,ix,d,k,b,m,z,fo,se,x,rs)∧FI w.1.1 PS U fo se rs∧(x.2.2.2.1=true→FV w.1.1 PS x.1 p.1)
theorem SP{PS:Ze}(hw:WY w PS U ix)(p:Pl)(d k:Int)(b:Bool)(m:DM)(z:Unit){rs:Zh}(h:FI w.1.1 PS U fo se rs)(hp:bT aK p fo=false)(hU:p∈U)(hP:p.2.1∈PS):
 ∃(L:Zz)(y:Bool)(x:mq)(n:Zh)(se':SM)(rs':Zh),gG p w ix d k b m z fo se rs=some (w,ix,d,k,b,m,z,fo,se,rs,(w.1,(L,())))∧f87 (w.1,(L,())) p.1 p.2.1 p.2.2.1 d k=some (y,x,n)∧
  im rs n w ix d k b m z fo se=some (n,w,ix,d,k,b,m,z,fo,se',rs')∧fo.length+1≤aH∧
  PL w PS U ix d k b m z p (w,ix,d,k,b,m,z,aZ aK p (x,((0:Int),(([]:Zl),(y,())))) fo,se',(x,((0:Int),(([]:Zl),(y,())))),rs'):=by
 have hB:=hB
 obtain⟨L,e1,hL,hPS⟩:=Cy hw p d k b m z fo se rs
 obtain⟨⟨y,x,n⟩,e2,hn,hx⟩:=Kz (PS:=PS) (w.1,(L,())) hw.sw.nb hw.sw.rules hw.fl (by grind) hPS p.1 p.2.1 p.2.2.1 d k hP
 dsimp only at hn hx
 have hlen:=h.len
 have h1:=hw.len
 have h2:=h.se
 have h3:=h.rs
 obtain⟨se',rs',e3,q1,q2⟩:=rW n se rs (by omega) (by omega)
 refine⟨L,y,x,n,se',rs',e1,e2,?_,by omega,?_⟩
 ·unfold im
  grind
 ·have hnew:(aZ aK p (x,((0:Int),(([]:Zl),(y,())))) fo).length=fo.length+1:=by
   rw[gw (kt:=aK) rfl (fun hm=>by rw[(di (kt:=aK) rfl).2 hm] at hp;cases hp),kG,kJ]
  exact⟨_,_,_,_,rfl,h.put hU hx (by omega) (by omega),hx⟩
abbrev Q0:=Pl×bz×Ix×Int×Int×Bool×DM×Unit×FM×SM×List qa×Unit→Option (bz×Ix×Int×Int×Bool×DM×Unit×FM×SM×N6×List qa)
abbrev Q1:=dt×Int×List mq×bz×Ix×Int×Int×Bool×DM×Unit×FM×SM×List qa×Unit→Option (Bool×dt×Int×bz×Ix×Int×Int×Bool×DM×Unit×FM×SM×List mq×List qa)
theorem Hj{s:cu}{PS:Ze}{u:dt}{l:Zl}(hN:NB s)(hL:LI s PS u l)(hl:l.length=u.2.2.1.length){t:gU}(ht:yv (cR s u) t)(h1:t.2.2.1≠-1):
 ∃n,∀(w:bz),w.1.1=s→∀ix d k b m z fo se rs,rO t u w ix d k b m z l fo se rs=some (n,u,w,ix,d,k,b,m,z,l,fo,se,rs):=by
 rcases ht with hi|hi
 ·obtain⟨v,hv,_⟩:=Og hL hl (Or.inl hi)
  obtain⟨p,hp⟩:=Kx s hN ([],([],((nth aQ u.2.2.1 t.2.2.1).2.2.1,(t.2.2.2.1,())))) v
  refine⟨p.1,fun w hw ix d k b m z fo se rs=>?_⟩
  have hp':f219 w.1.1 ([],([],((nth aQ u.2.2.1 t.2.2.1).2.2.1,(t.2.2.2.1,())))) v=some p:=by grind
  unfold rO
  rw[aA hi.v0,aA (show t.2.2.1<(u.2.2.1.length:Int) from hi.v1),hv,aM,hp']
  rfl
 grind
theorem TS{s:cu}{PS:Ze}{u:dt}{l:Zl}(hN:NB s)(hw:u.2.2.2.1.length≤aH)(hR:RK (cR s u))(hL:LI s PS u l)(hl:l.length=u.2.2.1.length):
 ∃y,∀(w:bz),w.1.1=s→∀ix d k b m z fo se rs,oI u w ix d k b m z l fo se rs=some (y,w,ix,d,k,b,m,z,l,fo,se,rs):=by
 have hB:=hB
 have key:∀n i:Nat,u.2.2.2.1.length -i<n→i≤u.2.2.2.1.length→∃y:Bool,∀(w:bz),w.1.1=s→∀ix d k b m z fo se rs,
  gL n (u.2.2.2.1,(u.2.2.2.1.length:Int),(i:Int),w,ix,d,k,b,m,z,l,fo,se,rs,u)=some (if y=true then .brk (w,ix,d,k,b,m,z,l,fo,se,rs) else .ret (false,w,ix,d,k,b,m,z,l,fo,se,rs)):=by
  intro n
  induction n with
  |zero=>grind
  |
   succ n ih=>
   intro i hn hi
   by_cases h:i<u.2.2.2.1.length
   ·have hm:yv (cR s u) (nth aV u.2.2.2.1 (i:Int)).2.1∧yv (cR s u) (nth aV u.2.2.2.1 (i:Int)).2.2.1:=hR.wh _ (dc (t:=aV) (l:=u.2.2.2.1) (dE i) (show(i:Int)<(u.2.2.2.1.length:Int) by omega))
    obtain⟨y,hy⟩:=ih (i+1) (by omega) (by omega)
    have hw2:=nY i (by omega)
    have hi1:(i:Int)<(u.2.2.2.1.length:Int):=by omega
    generalize ha:nth aV u.2.2.2.1 (i:Int)=a at hm
    obtain⟨v1,e1,_⟩:=Og hL hl hm.1
    obtain⟨v2,e2,_⟩:=Og hL hl hm.2
    have fin:∀(p q:Int)(c:Bool),f220 a.1 p q=some c→∀(w:bz) ix d k b m z fo se rs(rec:(ZB)×Int×Int×bz×Ix×Int×Int×Bool×DM×Unit×(Zl)×FM×SM×(Zh)×dt→Option (cL (bz×Ix×Int×Int×Bool×DM×Unit×(Zl)×FM×SM×(Zh)) (Bool×bz×Ix×Int×Int×Bool×DM×Unit×(Zl)×FM×SM×(Zh)))),
     rec (u.2.2.2.1,(u.2.2.2.1.length:Int),((i+1:Nat):Int),w,ix,d,k,b,m,z,l,fo,se,rs,u)=some (if y=true then .brk (w,ix,d,k,b,m,z,l,fo,se,rs) else .ret (false,w,ix,d,k,b,m,z,l,fo,se,rs))→
     ((f220 a.1 p q).bind fun y10=>if !y10 then(bU (some (false,w,ix,d,k,b,m,z,l,fo,se,rs))) else(rec (u.2.2.2.1,(u.2.2.2.1.length:Int),bq ((i:Int)+(1:Int)),w,ix,d,k,b,m,z,l,fo,se,rs,u)))=some (if(c&&y)=true then .brk (w,ix,d,k,b,m,z,l,fo,se,rs) else .ret (false,w,ix,d,k,b,m,z,l,fo,se,rs)):=by
     intro p q c hc w ix d k b m z fo se rs rec hr
     rw[hc,aM]
     cases c with
     |false=>rfl
     |true=>grind
    have hi0:=dE i
    by_cases n1:a.2.1.2.2.1= -1
    ·obtain⟨c,hc⟩:=mC a.1 v1 v2
     refine⟨c&&y,fun w hws ix d k b m z fo se rs=>?_⟩
     have hyw:=hy w hws ix d k b m z fo se rs
     unfold gL at hyw ⊢
     rw[aN]
     generalize aL _ n=rec at hyw ⊢
     dsimp only
     rw[cz hi1,aA hi0,aA hi1,ha,e1,aM,e2,aM,aC (show¬(!decide (a.2.1.2.2.1=(-1:Int)))=true by simpa using n1)]
     exact fin v1 v2 c hc w ix d k b m z fo se rs rec hyw
    ·by_cases n2:a.2.2.1.2.2.1= -1
     ·obtain⟨c,hc⟩:=mC a.1 v1 v2
      refine⟨c&&y,fun w hws ix d k b m z fo se rs=>?_⟩
      have hyw:=hy w hws ix d k b m z fo se rs
      unfold gL at hyw ⊢
      rw[aN]
      generalize aL _ n=rec at hyw ⊢
      dsimp only
      rw[cz hi1,aA hi0,aA hi1,ha,e1,aM,e2,aM,aA (show(!decide (a.2.1.2.2.1=(-1:Int)))=true by simpa using n1),aM,aC (show¬(!decide (a.2.2.1.2.2.1=(-1:Int)))=true by simpa using n2)]
      exact fin v1 v2 c hc w ix d k b m z fo se rs rec hyw
     ·obtain⟨p,hp⟩:=Hj hN hL hl hm.1 n1
      obtain⟨q,hq⟩:=Hj hN hL hl hm.2 n2
      obtain⟨c,hc⟩:=mC a.1 p q
      refine⟨c&&y,fun w hws ix d k b m z fo se rs=>?_⟩
      have hyw:=hy w hws ix d k b m z fo se rs
      unfold gL at hyw ⊢
      rw[aN]
      generalize aL _ n=rec at hyw ⊢
      dsimp only
      rw[cz hi1,aA hi0,aA hi1,ha,e1,aM,e2,aM,aA (show(!decide (a.2.1.2.2.1=(-1:Int)))=true by simpa using n1),aM,aA (show(!decide (a.2.2.1.2.2.1=(-1:Int)))=true by simpa using n2),hp w hws ix d k b m z fo se rs,aM]
      dsimp only
      rw[hq w hws ix d k b m z fo se rs,aM]
      exact fin p q c hc w ix d k b m z fo se rs rec hyw
   ·refine⟨true,fun w hws ix d k b m z fo se rs=>?_⟩
    unfold gL
    rw[aN]
    grind
 obtain⟨y,hy⟩:=key (Int.toNat (u.2.2.2.1.length:Int)+1) 0 (by omega) (by omega)
 refine⟨y,fun w hws ix d k b m z fo se rs=>?_⟩
 have hyw:gL (Int.toNat (u.2.2.2.1.length:Int)+1) (u.2.2.2.1,(u.2.2.2.1.length:Int),0,w,ix,d,k,b,m,z,l,fo,se,rs,u)=_:=hy w hws ix d k b m z fo se rs
 unfold oI
 rw[hyw]
 cases y<;>rfl
theorem Oi{s:cu}{PS:Ze}{u:dt}{l:Zl}(hw:u.2.2.2.2.1.length≤aH)(hR:RK (cR s u))(hL:LI s PS u l)(hl:l.length=u.2.2.1.length)(hf:1≤(cC s u.2.1).length)(hf2:(cC s u.2.1).length≤1000)(p:Int)(hp:p∈PS)(h0:(0:Int)∈PS)(hc:∀t∈u.2.2.2.2.1,t.2.2.1.2.2.2.2.1∈PS):
 ∃x,FV s PS x u.2.1∧(u.2.1,(p,((0:Int),(x.2.2.2.1,()))))=x∧∀(w:bz),w.1.1=s→∀ix d k b m z fo se rs,nO u p l w ix d k b m z fo se rs=some (w,ix,d,k,b,m,z,fo,se,rs,x):=by
 have hB:=hB
 have key:∀(n i:Nat)(v:Ze),u.2.2.2.2.1.length -i<n→i≤u.2.2.2.2.1.length→v.length=(cC s u.2.1).length→(∀x∈v,x∈PS)→∃v',v'.length=(cC s u.2.1).length∧(∀x∈v',x∈PS)∧∀(w:bz) ix d k b m z fo se rs,
  jC n (p,l,u.2.2.2.2.1,(u.2.2.2.2.1.length:Int),(i:Int),w,ix,d,k,b,m,z,fo,se,rs,u,0,0,0,v)=some (.brk (p,w,ix,d,k,b,m,z,fo,se,rs,u,0,0,0,v')):=by
  intro n
  induction n with
  |zero=>grind
  |
   succ n ih=>
   intro i v hn hi hv hP
   by_cases h:i<u.2.2.2.2.1.length
   ·have hi1:(i:Int)<(u.2.2.2.2.1.length:Int):=by omega
    have hi0:=dE i
    have hm:=dc (t:=bu) (l:=u.2.2.2.2.1) hi0 hi1
    have hw2:=nY i (by omega)
    have hc2:=hc _ hm
    obtain⟨hi,ht⟩:=hR.st _ hm
    obtain⟨y,ey,hy⟩:=Og hL hl ht
    have hb:(nth bu u.2.2.2.2.1 (i:Int)).2.1<(v.length:Int):=by rw[hv];exact hi.b1
    obtain⟨v',q1,q2,q3⟩:=ih (i+1) (List.set v (Int.toNat (nth bu u.2.2.2.2.1 (i:Int)).2.1) y) (by omega) (by omega) (by grind) (fun x hx=>by
     grind)
    refine⟨v',q1,q2,fun w ix d k b m z fo se rs=>?_⟩
    have hyw:=q3 w ix d k b m z fo se rs
    unfold jC at hyw ⊢
    rw[aN]
    generalize aL _ n=rec at hyw ⊢
    dsimp only
    rw[cz hi1,aA hi0,aA hi1,ey,aM,aA hi.b0,aA hb,hw2]
    exact hyw
   ·refine⟨v,hv,hP,fun w ix d k b m z fo se rs=>?_⟩
    unfold jC
    rw[aN]
    grind
 obtain⟨v',q1,q2,q3⟩:=key (Int.toNat (u.2.2.2.2.1.length:Int)+1) 0 (List.set (List.replicate (Int.toNat ((cC s u.2.1).length:Int)) (0:Int)) (Int.toNat (0:Int)) p) (by omega) (by omega) (by grind) (fun x hx=>by
  grind)
 refine⟨(u.2.1,(p,((0:Int),(v',())))),⟨q1,q2⟩,rfl,fun w hws ix d k b m z fo se rs=>?_⟩
 subst hws
 have e:(nth bF w.1.1.2.2.1 u.2.1).2.2.2.2.1=cC w.1.1 u.2.1:=rfl
 have q:=q3 w ix d k b m z fo se rs
 have q':jC (Int.toNat (u.2.2.2.2.1.length:Int)+1) (p,l,u.2.2.2.2.1,(u.2.2.2.2.1.length:Int),0,w,ix,d,k,b,m,z,fo,se,rs,u,0,0,0,List.set (List.replicate (Int.toNat ((cC w.1.1 u.2.1).length:Int)) (0:Int)) (Int.toNat (0:Int)) p)=_:=q
 unfold nO
 rw[aA hR.h0,aA hR.h1,e,dV _,aA (mL _),aA (by omega),aA (by grind),q',aG]
def iC(s:cu)(ix:Ix)(p:Pl):Zz:=if 0≤p.1∧p.1<(s.2.2.1.length:Int) then(List.range (cC s p.1).length).flatMap fun(c:Nat)=>aP aK (.slice 64 bJ) (p.1,(p.2.1,(bq ((bq ((16:Int)*p.2.2.1))+(c:Int)),()))) (aX ix) else[]
theorem Hk{PS:Ze}(hw:WY w PS U ix)(p:Pl)(d k:Int)(b:Bool)(m:DM)(z:Unit)(fo:FM)(se:SM)(rs:Zh):
 gG p w ix d k b m z fo se rs=some (w,ix,d,k,b,m,z,fo,se,rs,(w.1,(iC w.1.1 ix p,()))):=by
 have hB:=hB
 suffices hW:W (gG p w ix d k b m z fo se rs) fun r=>r=(w,ix,d,k,b,m,z,fo,se,rs,(w.1,(iC w.1.1 ix p,()))) by
  obtain⟨r,e,rfl⟩:=hW
  exact e
 unfold gG
 by_cases h0:0≤p.1
 ·rw[cz h0]
  by_cases h1:p.1<(w.1.1.2.2.1.length:Int)
  ·rw[cE h1,aM,aA rfl,aA h0,aA h1]
   have e:(nth bF w.1.1.2.2.1 p.1).2.2.2.2.1=cC w.1.1 p.1:=rfl
   have hF:=hw.fl _ h0 h1
   rw[e]
   have ea:iC w.1.1 ix p=(List.range (cC w.1.1 p.1).length).flatMap fun(c:Nat)=>aP aK (.slice 64 bJ) (p.1,(p.2.1,(bq ((bq ((16:Int)*p.2.2.1))+(c:Int)),()))) (aX ix):=aA ⟨h0,h1⟩
   rw[ea]
   refine bL.2 (W.ct (bX (L:=kE) rfl (CT (fun r=>r=(w,ix,d,k,b,m,z,fo,se,rs,w.1,(List.range (cC w.1.1 p.1).length).flatMap fun(c:Nat)=>aP aK (.slice 64 bJ) (p.1,(p.2.1,(bq ((bq ((16:Int)*p.2.2.1))+(c:Int)),()))) (aX ix))) fun _=>False) (cC w.1.1 p.1).length (fun c(L:Zz)=>(((cC w.1.1 p.1).length:Int),(c:Int),w,ix,d,k,b,m,z,fo,se,rs,p,w.1,L)) (fun c L=>L.length≤c*1000000∧L=(List.range c).flatMap fun(c:Nat)=>aP aK (.slice 64 bJ) (p.1,(p.2.1,(bq ((bq ((16:Int)*p.2.2.1))+(c:Int)),()))) (aX ix)) ?step ?stop _ 0 [] (by omega) (by omega) ⟨gY _,rfl⟩) (fun r h=>?_) fun r h=>h.elim)
   case step=>
    rintro rec c L hc ⟨hL,hP⟩ kk
    dsimp only
    have hw2:=nY c (by omega)
    obtain⟨q1,q2⟩:=hw.ix (p.1,(p.2.1,(bq ((bq ((16:Int)*p.2.2.1))+(c:Int)),())))
    rw[cz (by omega),aA (by omega),hw2]
    grind [List.range_succ]
   case stop=>
    rintro rec L ⟨hL,hP⟩
    dsimp only
    rw[aC (by grind),hP]
    exact⟨_,rfl,rfl⟩
   ·subst h
    exact⟨_,rfl,rfl⟩
  ·have ea:iC w.1.1 ix p= []:=aC fun h=>h1 h.2
   rw[du h1,ea];exact⟨_,rfl,rfl⟩
 ·have ea:iC w.1.1 ix p= []:=aC fun h=>h0 h.1
  rw[aC (show¬decide ((0:Int)≤p.1)=true by grind),ea];exact⟨_,rfl,rfl⟩
structure T2(w1:bz)(ix1:Ix)(k1:Int)(w2:bz)(ix2:Ix)(k2:Int)(lo PS:Ze)(U:List Pl)(d:Int)(Gd:qa→Prop):Prop where
 h1:WX w1 lo PS U ix1
 h2:WX w2 lo PS U ix2
 tb:w2.1=w1.1
 rd:∀(p:Pl) r,f87 (w1.1,(iC w1.1.1 ix1 p,())) p.1 p.2.1 p.2.2.1 d k1=some r→(∀q∈r.2.2,Gd q)→f87 (w2.1,(iC w2.1.1 ix2 p,())) p.1 p.2.1 p.2.2.1 d k2=some r
structure FT(b:cu):Prop where
 dq:b.2.2.1.length≤6
 rules:b.2.2.2.1.length≤4
 fields:∀x∈b.2.2.1,x.2.2.2.2.1.length≤6
 acu:∀x∈b.2.2.2.1,x.2.2.2.2.1.length≤6
theorem Oj(b:cu)(h:SS b):∃r,f108 b=some r∧(r=true→FT b):=by
 have hB:=hB
 have h3:=h.dq
 have h4:=h.rules
 have h5:=h.i6
 have h6:=h.fp
 suffices hW:W (f108 b) fun r=>r=true→FT b by
  trivial
 have nb:∀n:Nat,n≤aH→n -0<iB:=fun n hn=>by show _<18446744073709551616;omega
 have no:(false:Bool)=true→FT b:=fun h=>(by cases h)
 unfold f108
 refine bL.2 (W.ct (bX (L:=Ja) rfl (CT (fun d=>d=b∧∀j(hj:j<b.2.2.1.length),b.2.2.1[j].2.2.2.2.1.length≤6) fun r=>r=false) b.2.2.1.length (fun c(_:Unit)=>((c:Int),b)) (fun c _=>∀j(hj:j<b.2.2.1.length),j<c→b.2.2.1[j].2.2.2.2.1.length≤6) ?step ?stop iB 0 () (nb _ h3) (by omega) (fun j _ h=>absurd h (Nat.not_lt_zero _))) (fun d hd=>?_) fun r hr=>by grind)
 case step=>
  intro rec c _ hc hI kk
  dsimp only
  have hw2:=nY c (by omega)
  have hcc:(c:Int)<(b.2.2.1.length:Int):=by omega
  rw[cz hcc,dV c,aA hcc,cK (t:=bF) hc]
  by_cases a1:(6:Int)<(b.2.2.1[c].2.2.2.2.1.length:Int)
  ·rw[cz a1];exact⟨_,rfl,rfl⟩
  ·rw[aC (show¬decide ((6:Int)<(b.2.2.1[c].2.2.2.2.1.length:Int))=true by grind),dV c,aA hcc,aM]
   split
   ·exact⟨_,rfl,rfl⟩
   ·rw[hw2]
    refine kk () fun j hj hjc=>?_<;>grind
 case stop=>
  intro rec _ hI
  dsimp only
  rw[aC (by grind)]
  exact⟨_,rfl,rfl,fun j hj=>hI j hj hj⟩
 obtain⟨rfl,hf⟩:=hd
 refine bL.2 (W.ct (bX (L:=Jb) rfl (CT (fun d'=>d'=d∧∀j(hj:j<d.2.2.2.1.length),d.2.2.2.1[j].2.2.2.2.1.length≤6) fun r=>r=false) d.2.2.2.1.length (fun c(_:Unit)=>((c:Int),d)) (fun c _=>∀j(hj:j<d.2.2.2.1.length),j<c→d.2.2.2.1[j].2.2.2.2.1.length≤6) ?step ?stop iB 0 () (nb _ h4) (by omega) (fun j _ h=>absurd h (Nat.not_lt_zero _))) (fun d' hd=>?_) fun r hr=>by grind)
 case step=>
  intro rec c _ hc hI kk
  dsimp only
  have hw2:=nY c (by omega)
  have hcc:(c:Int)<(d.2.2.2.1.length:Int):=by omega
  rw[cz hcc,dV c,aA hcc,cK (t:=bG) hc]
  by_cases a1:(4:Int)<(d.2.2.2.1[c].2.2.1.length:Int)
  ·rw[cz a1];exact⟨_,rfl,rfl⟩
  ·rw[aC (show¬decide ((4:Int)<(d.2.2.2.1[c].2.2.1.length:Int))=true by grind),dV c,aA hcc]
   by_cases a2:(5:Int)<(d.2.2.2.1[c].2.2.2.1.length:Int)
   ·rw[cz a2];exact⟨_,rfl,rfl⟩
   ·rw[aC (show¬decide ((5:Int)<(d.2.2.2.1[c].2.2.2.1.length:Int))=true by grind),dV c,aA hcc,aM]
    by_cases a3:(6:Int)<(d.2.2.2.1[c].2.2.2.2.1.length:Int)
    ·rw[cz a3];exact⟨_,rfl,rfl⟩
    ·rw[aC (show¬decide ((6:Int)<(d.2.2.2.1[c].2.2.2.2.1.length:Int))=true by grind),hw2]
     refine kk () fun j hj hjc=>?_<;>grind
 case stop=>
  intro rec _ hI
  dsimp only
  rw[aC (by grind)]
  exact⟨_,rfl,rfl,fun j hj=>hI j hj hj⟩
 obtain⟨rfl,hs⟩:=hd
 refine bL.2 (W.ct (bX (L:=Ew) rfl (CT (fun d=>d=d') fun r=>r=false) d'.2.2.2.2.1.length (fun c(_:Unit)=>((c:Int),d')) (fun _ _=>True) ?step ?stop iB 0 () (nb _ h5) (by omega) trivial) (fun d hd=>?_) fun r hr=>by grind)
 case step=>
  intro rec c _ hc _ kk
  dsimp only
  have hw2:=nY c (by omega)
  have hcc:(c:Int)<(d'.2.2.2.2.1.length:Int):=by omega
  rw[cz hcc,dV c,aA hcc]
  split
  ·exact⟨_,rfl,rfl⟩
  simp_all
 case stop=>
  intro rec _ _
  dsimp only
  rw[aC (by grind)]
  exact⟨_,rfl,rfl⟩
 subst hd
 refine bL.2 (W.ct (bX (L:=Ex) rfl (CT (fun d'=>d'=d) fun r=>r=false) d.2.2.2.2.2.1.length (fun c(_:Unit)=>((c:Int),d)) (fun _ _=>True) ?step ?stop iB 0 () (nb _ h6) (by omega) trivial) (fun d' hd=>?_) fun r hr=>by grind)
 case step=>
  intro rec c _ hc _ kk
  dsimp only
  have hw2:=nY c (by omega)
  have hcc:(c:Int)<(d.2.2.2.2.2.1.length:Int):=by omega
  rw[cz hcc,dV c,aA hcc]
  split
  ·exact⟨_,rfl,rfl⟩
  simp_all
 case stop=>
  intro rec _ _
  dsimp only
  rw[aC (by grind)]
  exact⟨_,rfl,rfl⟩
 subst hd
 by_cases c1:(d'.1.length:Int)≤4
 ·rw[cz c1]
  by_cases c2:(d'.2.1.length:Int)≤5
  ·rw[cz c2]
   by_cases c3:(d'.2.2.1.length:Int)≤6
   ·rw[cz c3]
    by_cases c4:(d'.2.2.2.1.length:Int)≤4
    ·rw[cz c4]
     have fT:FT d':=⟨by omega,by omega,fun x hx=>by
      obtain⟨j,hj,rfl⟩:=jn hx
      grind,fun x hx=>by
      obtain⟨j,hj,rfl⟩:=jn hx
      grind⟩
     split
     ·exact⟨_,rfl,fun _=>fT⟩
     ·exact⟨_,rfl,no⟩
    ·rw[aC (show¬decide ((d'.2.2.2.1.length:Int)≤4)=true by grind)];exact⟨_,rfl,no⟩
   ·rw[aC (show¬decide ((d'.2.2.1.length:Int)≤6)=true by grind)];exact⟨_,rfl,no⟩
  ·rw[aC (show¬decide ((d'.2.1.length:Int)≤5)=true by grind)];exact⟨_,rfl,no⟩
 ·rw[aC (show¬decide ((d'.1.length:Int)≤4)=true by grind)];exact⟨_,rfl,no⟩
theorem Ol(w:bz)(h:SS w.1.1):∃r,f49 w=some r∧(r=true→FT w.1.1∧w.2.1.length≤60):=by
 obtain⟨r,e,hr⟩:=Oj w.1.1 h
 unfold f49 f72
 rw[e,aM]
 grind
theorem Om(w:bz)(h:SS w.1.1):∃r,f21 w=some r∧(r=true→FT w.1.1∧w.2.1.length≤60):=by
 have hB:=hB
 have h4:=h.rules
 suffices hW:W (f21 w) fun r=>r=true→FT w.1.1∧w.2.1.length≤60 by
  trivial
 have no:(false:Bool)=true→FT w.1.1∧w.2.1.length≤60:=fun h=>(by cases h)
 unfold f21
 refine bL.2 (W.ct (bX (L:=NX) rfl (CT (fun d=>d=(w,w.1.1)) fun r=>r=false) w.1.1.2.2.2.1.length (fun c(_:Unit)=>((c:Int),w,w.1.1)) (fun _ _=>True) ?step ?stop iB 0 () (by show _<18446744073709551616;omega) (by omega) trivial) (fun d hd=>?_) fun r hr=>by grind)
 case step=>
  intro rec c _ hc _ kk
  dsimp only
  have hw2:=nY c (by omega)
  have hcc:(c:Int)<(w.1.1.2.2.2.1.length:Int):=by omega
  rw[cz hcc,dV c,aA hcc]
  split
  ·exact⟨_,rfl,rfl⟩
  simp_all
 case stop=>
  intro rec _ _
  dsimp only
  rw[aC (by grind)]
  exact⟨_,rfl,rfl⟩
 subst hd
 dsimp only
 obtain⟨r,e,hr⟩:=Ol w h
 rw[e,aM]
 cases r with
 |false=>exact⟨false,rfl,no⟩
 |
  true=>
  have ht:=hr rfl
  rw[aA rfl]
  split
  ·exact⟨_,rfl,fun _=>ht⟩
  ·exact⟨false,rfl,no⟩
def iT(k:cN)(l:Zz):Zz:=l.filter fun f=>bl aK f.1 k
theorem Je(k:cN)(l:Zz)(x:gM):iT k (l++[x])=iT k l++if bl aK x.1 k=true then[x] else[]:=by
 grind [iT]
def ya(l:Zo):Zu:=l.foldl (fun m u=>aZ (.int .i64) u.2.1 true m) []
theorem Jf(l:Zo)(u:dt):ya (l++[u])=aZ (.int .i64) u.2.1 true (ya l):=by
 grind [ya]
theorem yF:∀(l:Zo)(m:Zu),(l.foldl (fun m u=>aZ (.int .i64) u.2.1 true m) m).length≤m.length+l.length
 |[],m=>dP _
 |
  u::l,m=>by
  have h:=yF l (aZ (.int .i64) u.2.1 true m)
  have h2:(aZ (.int .i64) u.2.1 true m).length≤m.length+1:=dy (kt:=.int .i64)
  rw[List.foldl_cons,gP]
  omega
theorem KA(l:Zo):(ya l).length≤l.length:=by
 have h:=yF l []
 rw[List.length_nil,eN] at h
 exact h
theorem yG(l:List α)(c:Nat)(h:c<l.length):l.take (c+1)=l.take c++[l[c]]:=List.take_succ_eq_append_getElem h
theorem KB(w:bz)(hf:w.2.1.length≤1000000)(hr:w.1.1.2.2.2.1.length≤aH)(d k:Int)(v:Bool):
 ∃ix:List (cN×Zz),rU w d k v=some (w,some ix,d,k,v,some (ya w.1.1.2.2.2.1),(),[],[],[])∧∀key,aP aK (.slice 64 bJ) key ix=iT key w.2.1:=by
 have hB:=hB
 suffices hW:W (rU w d k v) fun r=>∃ix:List (cN×Zz),r=(w,some ix,d,k,v,some (ya w.1.1.2.2.2.1),(),[],[],[])∧∀key,aP aK (.slice 64 bJ) key ix=iT key w.2.1 by
  obtain⟨r,e,ix,rfl,h⟩:=hW
  grind
 unfold rU
 refine bL.2 (W.ct (bX (L:=yA) rfl (CT (fun r=>∃ix:List (cN×Zz),r=(d,k,w,ix,([]:Zu),w,0,0,v)∧∀key,aP aK (.slice 64 bJ) key ix=iT key w.2.1) fun _=>False) w.2.1.length (fun c(ix:List (cN×Zz))=>(d,k,w.2.1,(w.2.1.length:Int),(c:Int),w,ix,([]:Zu),w,0,0,v)) (fun c ix=>ix.length≤2*c∧∀key,aP aK (.slice 64 bJ) key ix=iT key (w.2.1.take c)) ?step ?stop _ 0 [] (by omega) (by omega) ⟨gY _,fun key=>rfl⟩) (fun r hr=>?_) fun r hr=>hr.elim)
 case step=>
  rintro rec c ix hc ⟨hl,hI⟩ kk
  dsimp only
  have hw2:=nY c (by omega)
  have hcc:(c:Int)<(w.2.1.length:Int):=by omega
  rw[cz hcc,dV c,aA hcc,cK (t:=bJ) hc]
  have ht:=yG w.2.1 c hc
  generalize w.2.1[c]=x at ht ⊢
  have h1:(aP aK (.slice 64 bJ) x.1 ix).length≤w.2.1.length:=by
   rw[hI x.1]
   exact dh (yO ..) (by grind)
  rw[aA ((cM aK x.1 x.1).2 rfl),aA (show ix.length+1≤aH by omega),aA (show((aP aK (.slice 64 bJ) x.1 ix).length+List.length [x])*64≤aH by grind),hw2]
  refine kk _ ⟨?_,fun key=>?_⟩
  ·have q1:(aZ aK x.1 (Ty.aD (.slice 64 bJ)) ix).length≤ix.length+1:=dy (kt:=aK)
   have q2:(aZ aK x.1 (aP aK (.slice 64 bJ) x.1 ix++[x]) (aZ aK x.1 (Ty.aD (.slice 64 bJ)) ix)).length≤(aZ aK x.1 (Ty.aD (.slice 64 bJ)) ix).length+1:=dy (kt:=aK)
   omega
  ·rw[ht,Je]
   by_cases e:key=x.1
   ·subst e
    rw[dw (kt:=aK) (vt:=.slice 64 bJ) rfl,hI,aA ((cM aK x.1 x.1).2 rfl)]
   ·rw[dG (kt:=aK) (vt:=.slice 64 bJ) rfl e,dG (kt:=aK) (vt:=.slice 64 bJ) rfl e,hI,aC (fun h=>e ((cM aK x.1 key).1 h).symm),fL]
 case stop=>
  rintro rec ix ⟨hl,hI⟩
  dsimp only
  rw[aC (by grind)]
  rw[List.take_length] at hI
  exact⟨_,rfl,ix,rfl,hI⟩
 obtain⟨ix,rfl,hI⟩:=hr
 dsimp only
 refine bL.2 (W.ct (bX (L:=yB) rfl (CT (fun r=>r=(d,k,ix,ya w.1.1.2.2.2.1,w,0,0,v)) fun _=>False) w.1.1.2.2.2.1.length (fun c(m:Zu)=>(d,k,w.1.1.2.2.2.1,(w.1.1.2.2.2.1.length:Int),(c:Int),ix,m,w,0,0,v)) (fun c m=>m=ya (w.1.1.2.2.2.1.take c)) ?step ?stop _ 0 [] (by omega) (by omega) rfl) (fun r hr=>?_) fun r hr=>hr.elim)
 case step=>
  rintro rec c m hc rfl kk
  dsimp only
  have hw2:=nY c (by omega)
  have hcc:(c:Int)<(w.1.1.2.2.2.1.length:Int):=by omega
  have hl:=KA (w.1.1.2.2.2.1.take c)
  rw[kI] at hl
  rw[cz hcc,dV c,aA hcc,aA (show(ya (w.1.1.2.2.2.1.take c)).length+1≤aH by omega),hw2,cK (t:=bG) hc]
  grind [yG,Jf]
 case stop=>
  rintro rec m rfl
  dsimp only
  rw[aC (by grind),List.take_length]
  exact⟨_,rfl,rfl⟩
 subst hr
 exact⟨_,rfl,ix,rfl,hI⟩
theorem ll{α β:Type}{f:α→List β}{n:Nat}:∀{l:List α},(∀x∈l,(f x).length≤n)→(l.flatMap f).length≤l.length*n
 |[],_=>gY _
 |
  x::l,h=>by
  have h1:=h x (cm ..)
  have h2:=ll (f:=f) (n:=n) (l:=l) fun y hy=>h y (dj _ hy)
  grind [gX]
def Cp(w:bz)(p:Int):Ze:=0::p::(w.2.1.map (fun f=>f.2.1)++w.1.1.2.2.2.1.flatMap fun u=>u.2.2.2.2.1.map fun t=>t.2.2.1.2.2.2.2.1)
def Uo(w:bz)(p:Int)(x:Pl):List Pl:=x::(List.range w.1.1.2.2.1.length).flatMap fun(i:Nat)=>(Cp w p).flatMap fun(q:Int)=>(List.range 4).map fun(j:Nat)=>(((i:Int),(q,((j:Int),()))):Pl)
theorem Hl(p:Int)(hT:FT w.1.1)(hf:w.2.1.length≤60):(Cp w p).length≤86:=by
 have h:=ll (f:=fun u:dt=>u.2.2.2.2.1.map fun t=>t.2.2.1.2.2.2.2.1) (n:=6) (l:=w.1.1.2.2.2.1) fun x hx=>by rw[jo];exact hT.acu x hx
 have h4:=hT.rules
 grind [Cp]
theorem KC(p:Int)(x:Pl)(hT:FT w.1.1)(hf:w.2.1.length≤60):(Uo w p x).length≤2100:=by
 have h1:=Hl p hT hf
 have h2:∀i:Nat,((Cp w p).flatMap fun(q:Int)=>(List.range 4).map fun(j:Nat)=>(((i:Int),(q,((j:Int),()))):Pl)).length≤344:=fun i=>by
  have:=ll (f:=fun(q:Int)=>(List.range 4).map fun(j:Nat)=>(((i:Int),(q,((j:Int),()))):Pl)) (n:=4) (l:=Cp w p) fun y _=>by grind
  omega
 have h3:=ll (f:=fun(i:Nat)=>(Cp w p).flatMap fun(q:Int)=>(List.range 4).map fun(j:Nat)=>(((i:Int),(q,((j:Int),()))):Pl)) (n:=344) (l:=List.range w.1.1.2.2.1.length) fun i _=>h2 i
 rw[List.length_range] at h3
 have h4:=hT.dq
 grind [Uo]
theorem SQ(p:Int)(x:Pl){a q i:Int}(a0:0≤a)(a1:a<(w.1.1.2.2.1.length:Int))(hq:q∈Cp w p)(i0:0≤i)(i1:i<4):(a,(q,(i,())))∈Uo w p x:=by
 refine dj _ (List.mem_flatMap.2 ⟨a.toNat,List.mem_range.2 (by omega),List.mem_flatMap.2 ⟨q,hq,List.mem_map.2 ⟨i.toNat,List.mem_range.2 (by omega),?_⟩⟩⟩)<;>grind
theorem WXo(hc:CG w.1.1 lo)(hT:FT w.1.1)(hf:w.2.1.length≤60)(p:Int)(x:Pl)(hix:IX (Cp w p) ix):WX w lo (Cp w p) (Uo w p x) ix where
 cg:=hc
 zero:=cm ..
 consts u hu t ht:=dj _ (dj _ (kK _ (List.mem_flatMap.2 ⟨u,hu,List.mem_map.2 ⟨t,ht,rfl⟩⟩)))
 pl _ _ _ a0 a1 hq i0 i1:=SQ p x a0 a1 hq i0 i1
 len:=dh (KC p x hT hf) (by decide)
 fl a a0 a1:=by
  have:=hT.fields _ (dc (t:=bF) (l:=w.1.1.2.2.1) a0 a1)
  exact dh this (by decide)
 ix:=hix
abbrev Rs:=N6
abbrev In:=mq
abbrev Rd:=qa
abbrev Ru:=dt
abbrev An:=Bool×In×List Rd
inductive Qy(α:Type) where
 |ret:α→Qy α
 |ask:Pl→(Bool→In→Qy α)→Qy α
def Qy.bind{α β:Type}:Qy α→(α→Qy β)→Qy β
 | .ret a,f=>f a
 | .ask p k,f=>.ask p fun b x=>(k b x).bind f
def Qy.run{α:Type}(O:Pl→An):Qy α→α×List Rd
 | .ret a=>(a,[])
 | .ask p k=>(((k (O p).1 (O p).2.1).run O).1,(O p).2.2++((k (O p).1 (O p).2.1).run O).2)
variable{β:Type}
theorem Qy.run_bind(O:Pl→An)(f:α→Qy β):∀x:Qy α,(x.bind f).run O=(((f (x.run O).1).run O).1,(x.run O).2++((f (x.run O).1).run O).2)
 | .ret a=>rfl
 |
  .ask p k=>by
  show((((k (O p).1 (O p).2.1).bind f).run O).1,(O p).2.2++(((k (O p).1 (O p).2.1).bind f).run O).2)=((((f ((k (O p).1 (O p).2.1).run O).1)).run O).1,((O p).2.2++((k (O p).1 (O p).2.1).run O).2)++((f ((k (O p).1 (O p).2.1).run O).1).run O).2)
  rw[Qy.run_bind O f (k (O p).1 (O p).2.1),vZ]
open Classical in
def cW:List Rd→List Rd→List Rd
 |rs,[]=>rs
 |rs,r::t=>cW (if r∈rs then rs else rs++[r]) t
theorem dW:∀(a rs b:List Rd),cW rs (a++b)=cW (cW rs a) b
 |[],_,_=>rfl
 |r::a,rs,b=>dW a (if r∈rs then rs else rs++[r]) b
theorem qi:∀(t rs:List Rd)(x:Rd),x∈cW rs t↔x∈rs∨x∈t
 |[],rs,x=>by simp[cW]
 |
  r::t,rs,x=>by
  unfold cW
  rw[qi t]
  grind
theorem vO:∀(t rs:List Rd),(∀r∈t,r∈rs)→cW rs t=rs
 |[],_,_=>rfl
 |
  r::t,rs,h=>by
  unfold cW
  rw[aA (h r (cm ..))]
  exact vO t rs fun x hx=>h x (dj _ hx)
def SJ(se:SM)(rs:List Rd):Prop:=∀r,aP aR .bool r se=true↔r∈rs
theorem rX:∀(n:List Rd)(se:SM)(acc:List Rd)(s':SM)(a':List Rd),jU n se acc=some (s',a')→SJ se acc→a'=cW acc n∧SJ s' a'
 |
  [],se,acc,s',a',h,hs=>by
  cases h
  trivial
 |
  r::n,se,acc,s',a',h,hs=>by
  unfold jU at h
  unfold cW
  split at h
  ·rename_i hm
   rw[aA ((hs r).1 hm)]
   exact rX n se acc s' a' h hs
  ·rename_i hm
   rw[aC fun hr=>hm ((hs r).2 hr)]
   split at h
   ·split at h
    ·refine rX n _ _ s' a' h fun x=>?_
     rw[jb,mJ]
     by_cases e:x=r
     ·subst e
      rw[dw (kt:=aR) (vt:=.bool) rfl]
      grind
     ·rw[dG (kt:=aR) (vt:=.bool) rfl e,hs x]
      grind
    grind
   grind
def w0(s:cu):bz:=((s,([],())),([],()))
def Cz(s:cu)(u:Ru)(l:List In):Bool:=match oI u (w0 s) none 0 0 false none () l [] [] [] with
 |some r=>r.1
 |none=>false
def ja(s:cu)(u:Ru)(p:Int)(l:List In):In:=(u.2.1,(p,((0:Int),((match nO u p l (w0 s) none 0 0 false none () [] [] [] with
 |some r=>r.2.2.2.2.2.2.2.2.2.2.2.2.2.1
 |none=>[]),()))))
def rY(u:Ru)(p:Int)(l:List In):Int:=
 if(nth aQ u.2.2.1 (l.length:Int)).2.2.2.1.2.2.1= -1 then p else nth (.int .i64) (nth bp l (nth aQ u.2.2.1 (l.length:Int)).2.2.2.1.2.2.1).2.2.2.1 (nth aQ u.2.2.1 (l.length:Int)).2.2.2.1.2.2.2.1
def gV(look:Pl→Qy Rs)(ch:List In→Qy (Bool×List In))(a o:Int)(l:List In):Nat→Nat→Qy (Bool×List In)
 |0,_=>.ret (false,l)
 |n+1,c=>(look (a,(o,((c:Int),())))).bind fun x=>if x.2.2.2.1=true then(ch (l++[x.1])).bind fun y=>if y.1=true then .ret y else gV look ch a o l n (c+1) else gV look ch a o l n (c+1)
def cn(m:DM)(a:Int):Nat:=if aP (.int .i64) .bool a (aX m)=true then 1 else 4
def cP(look:Pl→Qy Rs)(s:cu)(m:DM)(u:Ru)(p:Int):Nat→List In→Qy (Bool×List In)
 |0,l=>.ret (Cz s u l,l)
 |n+1,l=>gV look (cP look s m u p n) (nth aQ u.2.2.1 (l.length:Int)).2.2.1 (rY u p l) l (cn m (nth aQ u.2.2.1 (l.length:Int)).2.2.1) 0
def zR:Rs:=((0,(0,(0,([],())))),(0,([],(false,()))))
def eK(ch:Ru→Qy (Bool×List In))(bd:Ru→List In→In)(R:List Ru)(a:Int):Nat→Nat→Qy Rs
 |0,_=>.ret zR
 |n+1,c=>if(nth bG R (c:Int)).2.1=a then(ch (nth bG R (c:Int))).bind fun y=>if y.1=true then .ret (bd (nth bG R (c:Int)) y.2,((c:Int),(y.2,(true,())))) else eK ch bd R a n (c+1) else eK ch bd R a n (c+1)
def jD(s:cu)(m:DM)(look:Pl→Qy Rs)(p:Pl):Qy Rs:=
 if aP (.int .i64) .bool p.1 (aX m)=true then eK (fun u=>cP look s m u p.2.1 u.2.2.1.length []) (fun u l=>ja s u p.2.1 l) s.2.2.2.1 p.1 s.2.2.2.1.length 0 else .ask p fun b x=>.ret (x,(0,([],(b,()))))
def CA(s:cu)(m:DM):Nat→Pl→Qy Rs
 |0,_=>.ret zR
 |n+1,p=>jD s m (CA s m n) p
variable{k1:Pl→Qy Rs}{k2:Pl→Qy Rs}
theorem qj{ch1 ch2:List In→Qy (Bool×List In)}{a:Int}{l:List In}(h:∀y,k1 (a,y)=k2 (a,y))(hc:∀x,ch1 (l++[x])=ch2 (l++[x]))(o:Int):∀n c,gV k1 ch1 a o l n c=gV k2 ch2 a o l n c
 |0,_=>rfl
 |
  n+1,c=>by
  unfold gV
  rw[h,qj h hc o n]
  simp only[hc]
theorem oQ{s:cu}{m:DM}{u:Ru}(h:∀v∈u.2.2.1,∀y,k1 (v.2.2.1,y)=k2 (v.2.2.1,y))(p:Int):∀n l,l.length+n=u.2.2.1.length→cP k1 s m u p n l=cP k2 s m u p n l
 |0,_,_=>rfl
 |n+1,l,hl=>qj (h _ (dc (t:=aQ) (l:=u.2.2.1) (dE l.length) (by omega))) (fun x=>oQ h p n (l++[x]) (by grind)) _ _ _
variable{bd:Ru→List In→In}
theorem qk{c1 c2:Ru→Qy (Bool×List In)}{R:List Ru}{a:Int}(h:∀u∈R,u.2.1=a→c1 u=c2 u):∀n c,c+n≤R.length→eK c1 bd R a n c=eK c2 bd R a n c
 |0,_,_=>rfl
 |
  n+1,c,hc=>by
  unfold eK
  rw[qk h n (c+1) (by omega)]
  split
  ·rename_i hu
   rw[h _ (dc (t:=bG) (l:=R) (dE c) (by omega)) hu]
  ·rfl
theorem tB{s:cu}{m:DM}{p:Pl}(h:∀u∈s.2.2.2.1,u.2.1=p.1→∀v∈u.2.2.1,∀y,k1 (v.2.2.1,y)=k2 (v.2.2.1,y)):jD s m k1 p=jD s m k2 p:=by
 unfold jD
 rw[qk (fun u hu e=>oQ (h u hu e) p.2.1 _ [] (eN _)) _ 0 (by omega)]
theorem ql{s:cu}(hr:∀u∈s.2.2.2.1,∀v∈u.2.2.1,lo.idxOf v.2.2.1<lo.idxOf u.2.1)(m:DM):∀n n' p,lo.idxOf p.1<n→lo.idxOf p.1<n'→CA s m n p=CA s m n' p
 |
  n+1,n'+1,p,h,h'=>tB fun u hu e v hv y=>by
  have:=hr u hu v hv
  rw[e] at this
  exact ql hr m n n' _ (show lo.idxOf v.2.2.1<n by omega) (show lo.idxOf v.2.2.1<n' by omega)
def LQ(s:cu)(m:DM)(lo:Ze)(p:Pl):Qy Rs:=CA s m (lo.idxOf p.1+1) p
theorem CB{s:cu}(hr:∀u∈s.2.2.2.1,∀v∈u.2.2.1,lo.idxOf v.2.2.1<lo.idxOf u.2.1)(m:DM)(p:Pl):LQ s m lo p=jD s m (LQ s m lo) p:=by
 show jD s m (CA s m (lo.idxOf p.1)) p=_
 refine tB fun u hu e v hv y=>?_
 have:=hr u hu v hv
 rw[e] at this
 exact ql hr m _ _ _ this (Nat.lt_succ_self _)
structure MY(w:bz)(PS:Ze)(U:List Pl)(ix:Ix)(d k:Int)(O:Pl→An):Prop where
 wy:WY w PS U ix
 ra:∀p:Pl,p.2.1∈PS→f87 (w.1,(iC w.1.1 ix p,())) p.1 p.2.1 p.2.2.1 d k=some (O p)
structure MX(w:bz)(lo PS:Ze)(U:List Pl)(ix:Ix)(m:DM)(d k:Int)(O:Pl→An)(L:Pl→Qy Rs):Prop where
 wx:WX w lo PS U ix
 my:MY w PS U ix d k O
 fix:∀p,L p=jD w.1.1 m L p
variable{w:bz} {lo PS:Ze} {U:List Pl} {ix:Ix} {m:DM} {d k:Int} {O:Pl→An} {L:Pl→Qy Rs}
def FG(r:Rs):Prop:=r.2.2.1.length≤3∧∀y∈r.2.2.1,y.2.2.2.1.length≤1000
theorem FG.zero:FG zR:=⟨gY _,fun y hy=>(by cases hy)⟩
structure MI(s:cu)(PS:Ze)(U:List Pl)(O:Pl→An)(L:Pl→Qy Rs)(fo:FM)(se:SM)(rs:List Rd):Prop where
 fi:FI s PS U fo se rs
 vl:∀e∈fo,e.2=((L e.1).run O).1∧(∀r∈((L e.1).run O).2,r∈rs)∧FG ((L e.1).run O).1
 si:SJ se rs
theorem MI.nil(s:cu)(PS:Ze)(U:List Pl)(O:Pl→An)(L:Pl→Qy Rs):MI s PS U O L [] [] []:=⟨FI.nil s PS U,fun e he=>(by cases he),fun r=>⟨fun h=>(by cases h),fun h=>(by cases h)⟩⟩
theorem MI.put{s:cu}{rs:List Rd}(h:MI s PS U O L fo se rs){p:Pl}(hf:FI s PS U (aZ aK p ((L p).run O).1 fo) se' (cW rs ((L p).run O).2))(hs:SJ se' (cW rs ((L p).run O).2))(hg:FG ((L p).run O).1):MI s PS U O L (aZ aK p ((L p).run O).1 fo) se' (cW rs ((L p).run O).2) where
 fi:=hf
 vl e he:=by
  rcases fq (kt:=aK) he with rfl|he
  ·simp_all[qi]
  ·exact⟨(h.vl e he).1,fun r hr=>(qi ..).2 (Or.inl ((h.vl e he).2.1 r hr)),(h.vl e he).2.2⟩
 si:=hs
def LP(w:bz)(PS:Ze)(U:List Pl)(ix:Ix)(m:DM)(d k:Int)(O:Pl→An)(L:Pl→Qy Rs)(b:Bool)(z:Unit)(p:Pl)(rs:List Rd)(r:bz×Ix×Int×Int×Bool×DM×Unit×FM×SM×Rs×List Rd):Prop:=
 ∃fo se,r=(w,ix,d,k,b,m,z,fo,se,((L p).run O).1,cW rs ((L p).run O).2)∧MI w.1.1 PS U O L fo se (cW rs ((L p).run O).2)∧(((L p).run O).1.2.2.2.1=true→FV w.1.1 PS ((L p).run O).1.1 p.1)∧FG ((L p).run O).1
theorem SR(X:MY w PS U ix d k O)(q0:Q0)(q1:Q1)(p:Pl)(hf:L p=jD w.1.1 m L p)(b:Bool)(z:Unit){rs:List Rd}(h:MI w.1.1 PS U O L fo se rs)(hU:p∈U)(hP:p.2.1∈PS)
 (hd:aP (.int .i64) .bool p.1 (aX m)=true→W (vN q0 q1 p w ix d k b m z fo se rs) (LP w PS U ix m d k O L b z p rs)):W (jg q0 q1 p w ix d k b m z fo se rs) (LP w PS U ix m d k O L b z p rs):=by
 have hB:=hB
 unfold jg
 cases hp:bT aK p fo with
 |
  true=>
  rw[aA rfl]
  obtain⟨i,hi⟩:=rm (kt:=aK) (vt:=eF) rfl hp
  have he:=kL hi
  obtain⟨v1,v2,v3⟩:=h.vl _ he
  have v1:aP aK eF p fo=((L p).run O).1:=v1
  have hx:=h.fi.ok _ he
  rw[v1] at hx ⊢
  have e:=vO _ _ v2
  exact⟨_,rfl,fo,se,by rw[e],by grind,hx,v3⟩
 |
  false=>
  rw[aC (by decide)]
  cases hder:aP (.int .i64) .bool p.1 (aX m) with
  |
   true=>
   rw[aA rfl]
   refine bL.2 (pA.2 ((hd hder).mono fun r hr=>?_))
   obtain⟨fo',se',rfl,h',hx,hg3⟩:=hr
   refine⟨_,rfl,?_⟩
   rw[iG]
   dsimp only
   have hl:=h'.fi.len
   have hl2:=X.wy.len
   have hg:fo'.length≤(aZ aK p ((L p).run O).1 fo').length:=Hi (kt:=aK)
   have h1:=h'.fi.se
   have h2:=h'.fi.rs
   have e:=vO _ _ fun r hr=>(qi ((L p).run O).2 rs r).2 (Or.inr hr)
   rw[aA (show fo'.length+1≤aH by omega)]
   refine⟨_,rfl,_,_,rfl,?_,hx,hg3⟩
   have h3:MI w.1.1 PS U O L (aZ aK p ((L p).run O).1 fo') se' (cW (cW rs ((L p).run O).2) ((L p).run O).2):=h'.put (by rw[e];exact h'.fi.put hU hx (by omega) (by omega)) (by rw[e];exact h'.si) hg3
   grind
  |
   false=>
   rw[aC (by decide)]
   obtain⟨M,y,x,n,se',rs',e1,e2,e3,hl,hr⟩:=SP X.wy p d k b m z h.fi hp hU hP
   have e1':=Hk X.wy p d k b m z fo se rs
   rw[e1'] at e1
   have eL:iC w.1.1 ix p=M:=by
    grind
   subst eL
   have eO:O p=(y,x,n):=kN ((X.ra p hP).symm.trans e2)
   have eq:(L p).run O=((x,(0,([],(y,())))),n):=by
    simp_all[jD,Qy.run]
   have e4:nF n=some n:=rfl
   obtain⟨fo2,se2,x2,rs2,er,h',hx⟩:=hr
   cases er
   have hfr:jU n se rs=some (se',rs'):=by
    simp_all[im]
   obtain⟨s1,s2⟩:=rX n se rs se' rs' hfr h.si
   subst s1
   rw[e1',aM]
   dsimp only
   rw[iJ,iJ,iJ,iJ,e2,aM]
   dsimp only
   rw[e4,aM,e3,aM,aG]
   dsimp only
   rw[aA hl]
   have hg3:FG ((L p).run O).1:=by rw[eq];exact⟨gY _,fun y hy=>(by cases hy)⟩
   refine⟨_,rfl,_,_,by rw[eq],?_,by grind,hg3⟩
   have h3:MI w.1.1 PS U O L (aZ aK p ((L p).run O).1 fo) se' (cW rs ((L p).run O).2):=h.put (by grind) (by grind) hg3
   grind
theorem KD{u:Ru}{l:List In}(hN:NB w.1.1)(hw:u.2.2.2.1.length≤aH)(hR:RK (cR w.1.1 u))(hL:LI w.1.1 PS u l)(hl:l.length=u.2.2.1.length)(ix:Ix)(d k:Int)(b:Bool)(m:DM)(z:Unit)(fo:FM)(se:SM)(rs:List Rd):
 oI u w ix d k b m z l fo se rs=some (Cz w.1.1 u l,w,ix,d,k,b,m,z,l,fo,se,rs):=by
 obtain⟨y,hy⟩:=TS hN hw hR hL hl
 have e:Cz w.1.1 u l=y:=by unfold Cz;rw[hy (w0 w.1.1) rfl none 0 0 false none () [] [] []]
 grind
theorem Jg{u:Ru}{l:List In}(hw:u.2.2.2.2.1.length≤aH)(hR:RK (cR w.1.1 u))(hL:LI w.1.1 PS u l)(hl:l.length=u.2.2.1.length)(hf:1≤(cC w.1.1 u.2.1).length)(hf2:(cC w.1.1 u.2.1).length≤1000)(p:Int)(hp:p∈PS)(h0:(0:Int)∈PS)(hc:∀t∈u.2.2.2.2.1,t.2.2.1.2.2.2.2.1∈PS):
 FV w.1.1 PS (ja w.1.1 u p l) u.2.1∧∀ix d k b m z fo se rs,nO u p l w ix d k b m z fo se rs=some (w,ix,d,k,b,m,z,fo,se,rs,ja w.1.1 u p l):=by
 obtain⟨x,hx,hq,hy⟩:=Oi hw hR hL hl hf hf2 p hp h0 hc
 have e:ja w.1.1 u p l=x:=by unfold ja;rw[hy (w0 w.1.1) rfl none 0 0 false none () [] [] []];exact hq
 grind
def CQ(w:bz)(PS:Ze)(U:List Pl)(ix:Ix)(m:DM)(d k:Int)(O:Pl→An)(L:Pl→Qy Rs)(b:Bool)(z:Unit)(u:Ru)(p:Int)(l:List In)(y:(Bool×List In)×List Rd)(rs:List Rd)(r:Bool×Ru×Int×bz×Ix×Int×Int×Bool×DM×Unit×FM×SM×List In×List Rd):Prop:=
 ∃fo se,r=(y.1.1,u,p,w,ix,d,k,b,m,z,fo,se,y.1.2,cW rs y.2)∧MI w.1.1 PS U O L fo se (cW rs y.2)∧(y.1.1=false→y.1.2=l)∧(y.1.1=true→LI w.1.1 PS u y.1.2∧y.1.2.length=u.2.2.1.length)
theorem On(X:MX w lo PS U ix m d k O L)(q0:Q0)(q1:Q1)(p:Pl)(b:Bool)(z:Unit){rs:List Rd}(h:MI w.1.1 PS U O L fo se rs)(hP:p.2.1∈PS)(hm:aP (.int .i64) .bool p.1 (aX m)=true)
 (hq:∀u∈w.1.1.2.2.2.1,u.2.1=p.1→∀fo se rs,MI w.1.1 PS U O L fo se rs→W (q1 (u,p.2.1,[],w,ix,d,k,b,m,z,fo,se,rs,())) (CQ w PS U ix m d k O L b z u p.2.1 [] ((cP L w.1.1 m u p.2.1 u.2.2.1.length []).run O) rs)):
 W (vN q0 q1 p w ix d k b m z fo se rs) (LP w PS U ix m d k O L b z p rs):=by
 have hB:=hB
 have hr:=X.wx.cg.sw.rules
 let Z:Nat→Rs×List Rd:=fun c=>(eK (fun u=>cP L w.1.1 m u p.2.1 u.2.2.1.length []) (fun u l=>ja w.1.1 u p.2.1 l) w.1.1.2.2.2.1 p.1 (w.1.1.2.2.2.1.length -c) c).run O
 have eZ:(L p).run O=Z 0:=by rw[X.fix p];unfold jD;grind
 unfold vN
 refine bL.2 (W.ct (B:=fun r=>(Z 0).1=zR∧∃fo' se',r=(w,ix,d,k,b,m,z,fo',se',0,0,0,0,false,cW rs (Z 0).2)∧MI w.1.1 PS U O L fo' se' (cW rs (Z 0).2)) (Q:=LP w PS U ix m d k O L b z p rs) ?_ (fun r hr=>?_) fun r hr=>hr)
 ·refine W.mono (sE (L:=yC q0 q1) rfl (fun c(s:FM×SM×List Rd)(r:cL _ _)=>CT (fun r=>(Z c).1=zR∧∃fo' se',r=(w,ix,d,k,b,m,z,fo',se',0,0,0,0,false,cW s.2.2 (Z c).2)∧MI w.1.1 PS U O L fo' se' (cW s.2.2 (Z c).2)) (fun r=>∃fo' se',r=(w,ix,d,k,b,m,z,fo',se',(Z c).1,cW s.2.2 (Z c).2)∧MI w.1.1 PS U O L fo' se' (cW s.2.2 (Z c).2)∧FV w.1.1 PS (Z c).1.1 p.1∧FG (Z c).1) r) w.1.1.2.2.2.1.length (fun c(s:FM×SM×List Rd)=>(w.1.1.2.2.2.1,(w.1.1.2.2.2.1.length:Int),(c:Int),w,ix,d,k,b,m,z,s.1,s.2.1,p,0,0,0,0,false,s.2.2)) (fun _ s=>MI w.1.1 PS U O L s.1 s.2.1 s.2.2) ?step ?stop _ 0 (fo,se,rs) (by omega) (by omega) h) fun r hr=> ?fin
  case fin=>
   refine CT.mono (fun _ h=>h) (fun r h=>?_) r hr
   obtain⟨fo',se',rfl,h',hx,hg⟩:=h
   unfold LP
   grind
  case step=>
   rintro rec c ⟨fo,se,rs⟩ hc hI kk
   dsimp only at hI ⊢
   have hw2:=nY c (by omega)
   have hc1:(c:Int)<(w.1.1.2.2.2.1.length:Int):=by omega
   have hmm:=dc (t:=bG) (l:=w.1.1.2.2.2.1) (dE c) hc1
   rw[cz hc1,dV c,aA hc1]
   have eq:Z c=(if(nth bG w.1.1.2.2.2.1 (c:Int)).2.1=p.1 then(cP L w.1.1 m (nth bG w.1.1.2.2.2.1 (c:Int)) p.2.1 (nth bG w.1.1.2.2.2.1 (c:Int)).2.2.1.length []).bind fun y=>if y.1=true then .ret (ja w.1.1 (nth bG w.1.1.2.2.2.1 (c:Int)) p.2.1 y.2,((c:Int),(y.2,(true,())))) else eK (fun u=>cP L w.1.1 m u p.2.1 u.2.2.1.length []) (fun u l=>ja w.1.1 u p.2.1 l) w.1.1.2.2.2.1 p.1 (w.1.1.2.2.2.1.length -(c+1)) (c+1) else eK (fun u=>cP L w.1.1 m u p.2.1 u.2.2.1.length []) (fun u l=>ja w.1.1 u p.2.1 l) w.1.1.2.2.2.1 p.1 (w.1.1.2.2.2.1.length -(c+1)) (c+1):Qy Rs).run O:=by
    show(eK _ _ _ _ _ _).run O=_
    rw[show w.1.1.2.2.2.1.length -c=(w.1.1.2.2.2.1.length -(c+1))+1 by omega]
    rfl
   rw[eq]
   generalize nth bG w.1.1.2.2.2.1 (c:Int)=u at hmm ⊢
   by_cases hu:u.2.1=p.1
   ·rw[aC (show¬(!decide (u.2.1=p.1))=true by simp[hu]),aA hu,Qy.run_bind]
    obtain⟨r,er,fo',se',rfl,h',y0,y1⟩:=hq u hmm hu fo se rs hI
    have ea:uH q0 q1 u p.2.1 w ix d k b m z fo se rs=(if !((cP L w.1.1 m u p.2.1 u.2.2.1.length []).run O).1.1 then(some (false,w,ix,d,k,b,m,z,fo',se',([]:List In),cW rs ((cP L w.1.1 m u p.2.1 u.2.2.1.length []).run O).2)) else(some (true,w,ix,d,k,b,m,z,fo',se',((cP L w.1.1 m u p.2.1 u.2.2.1.length []).run O).1.2,cW rs ((cP L w.1.1 m u p.2.1 u.2.2.1.length []).run O).2))):=by
     unfold uH;grind
    rw[ea]
    generalize (cP L w.1.1 m u p.2.1 u.2.2.1.length []).run O=y at h' y0 y1 ⊢
    obtain⟨⟨y,l⟩,t⟩:=y
    dsimp only at h' y0 y1 ⊢
    cases y with
    |
     false=>
     rw[aA (show(!false)=true from rfl),aM]
     dsimp only
     rw[aC (by decide),aC (by decide),hw2,dW]
     exact kk (fo',se',cW rs t) h'
    |
     true=>
     obtain⟨hLI,hlen⟩:=y1 rfl
     have hR:=X.wx.cg.tg.rules u hmm
     have hf:=X.wx.cg.tg.fields _ (dc (t:=bF) (l:=w.1.1.2.2.1) hR.h0 hR.h1)
     have hs:=(X.wx.cg.sw.rl u hmm).2.2
     obtain⟨hx,hbu⟩:=Jg (w:=w) (by omega) hR hLI hlen hf (X.wx.fl _ hR.h0 hR.h1) p.2.1 hP X.wx.zero (X.wx.consts u hmm)
     rw[aC (show¬(!true)=true by decide),aM]
     dsimp only
     rw[aA rfl,aA rfl,hbu ix d k b m z fo' se',aM]
     unfold Qy.run
     rw[fL]
     refine⟨_,rfl,fo',se',rfl,h',hu▸hx,?_,fun y hy=>?_⟩
     ·show l.length≤3
      rw[hlen];exact hR.n3
     ·obtain⟨j,hj,rfl⟩:=jn hy
      have hj2:j<l.length:=hj
      have hF:FO (cR w.1.1 u) j:=hR.fo j (show j<u.2.2.1.length by omega)
      have:=(hLI.ok (j:Int) (dE j) (by omega)).1
      rw[cK (t:=bp) hj2] at this
      rw[this]
      exact X.wx.fl _ hF.s0 hF.s1
   ·rw[aA (show(!decide (u.2.1=p.1))=true by simp[hu]),aC hu,hw2]
    exact kk (fo,se,rs) hI
  case stop=>
   rintro rec ⟨fo,se,rs⟩ hI
   dsimp only at hI ⊢
   rw[aC (by grind)]
   have e:Z w.1.1.2.2.2.1.length=(zR,[]):=by
    show(eK _ _ _ _ (w.1.1.2.2.2.1.length -w.1.1.2.2.2.1.length) _).run O=_
    rw[Nat.sub_self];rfl
   rw[e]
   exact⟨_,rfl,rfl,fo,se,rfl,hI⟩
 ·obtain⟨e0,fo',se',rfl,h'⟩:=hr
  unfold LP
  rw[eZ,e0]
  exact⟨_,rfl,fo',se',rfl,h',fun h=>(by cases h),FG.zero⟩
variable{w:bz} {lo PS:Ze} {U:List Pl} {ix:Ix} {m:DM} {d k:Int} {O:Pl→An} {L:Pl→Qy Rs}
abbrev CH:Ru×Int×bz×Ix×Int×Int×Bool×DM×Unit×FM×SM×(List In)×(List Rd)→Option (Bool×Ru×Int×bz×Ix×Int×Int×Bool×DM×Unit×FM×SM×List In×List Rd):=fun x=>some (false,x.1,x.2.1,x.2.2.1,x.2.2.2.1,x.2.2.2.2.1,x.2.2.2.2.2.1,x.2.2.2.2.2.2.1,x.2.2.2.2.2.2.2.1,x.2.2.2.2.2.2.2.2.1,x.2.2.2.2.2.2.2.2.2.1,x.2.2.2.2.2.2.2.2.2.2.1,x.2.2.2.2.2.2.2.2.2.2.2.1,x.2.2.2.2.2.2.2.2.2.2.2.2)
theorem Oo(q0:Q0)(q1:Q1)(u:Ru)(p:Int)(l:List In)(b:Bool)(z:Unit)(fo:FM)(se:SM)(rs:List Rd)(hlt:l.length<u.2.2.1.length)
 (ho:(nth aQ u.2.2.1 (l.length:Int)).2.2.2.1.2.2.1= -1∨(0≤(nth aQ u.2.2.1 (l.length:Int)).2.2.2.1.2.2.1∧(nth aQ u.2.2.1 (l.length:Int)).2.2.2.1.2.2.1<(l.length:Int)∧0≤(nth aQ u.2.2.1 (l.length:Int)).2.2.2.1.2.2.2.1∧(nth aQ u.2.2.1 (l.length:Int)).2.2.2.1.2.2.2.1<((nth bp l (nth aQ u.2.2.1 (l.length:Int)).2.2.2.1.2.2.1).2.2.2.1.length:Int))):
 jy q0 q1 u p l w ix d k b m z fo se rs=aI (U:=Ru×Int×bz×Ix×Int×Int×Bool×DM×Unit×FM×SM×(List In)×(List Rd)) (nH q0 q1 (Int.toNat ((cn m (nth aQ u.2.2.1 (l.length:Int)).2.2.1:Nat):Int)+1) (rY u p l,((cn m (nth aQ u.2.2.1 (l.length:Int)).2.2.1:Nat):Int),0,u,p,w,ix,d,k,b,m,z,fo,se,nth aQ u.2.2.1 (l.length:Int),l,rs)) CH:=by
 unfold jy rY cn
 rw[aC (show¬decide ((l.length:Int)=(u.2.2.1.length:Int))=true by grind),dV _,aA (show(l.length:Int)<(u.2.2.1.length:Int) by omega)]
 generalize nth aQ u.2.2.1 (l.length:Int)=v at ho
 by_cases hv:v.2.2.2.1.2.2.1= -1
 ·rw[aC (show¬(!decide (v.2.2.2.1.2.2.1=(-1:Int)))=true by simp[hv]),aG,aA hv]
  dsimp only
  by_cases hm:aP (.int .i64) .bool v.2.2.1 (aX m)=true
  ·simp_all[aG]
  simp_all[aG]
 ·obtain⟨a1,a2,a3,a4⟩:=ho.resolve_left hv
  rw[aA (show(!decide (v.2.2.2.1.2.2.1=(-1:Int)))=true by grind),aA a1,aA a2,aA a3,aA a4,aG,aC hv]
  dsimp only
  by_cases hm:aP (.int .i64) .bool v.2.2.1 (aX m)=true
  ·simp_all[aG]
  simp_all[aG]
theorem Oq(X:MX w lo PS U ix m d k O L)(q0:Q0)(q1:Q1)(u:Ru)(hu:u∈w.1.1.2.2.2.1)(p:Int)(l:List In)(b:Bool)(z:Unit){rs:List Rd}(h:MI w.1.1 PS U O L fo se rs)(hP:p∈PS)(hL:LI w.1.1 PS u l)
 (hq0:∀y:Pl,y∈U→y.2.1∈PS→l.length<u.2.2.1.length→y.1=(nth aQ u.2.2.1 (l.length:Int)).2.2.1→∀fo se rs,MI w.1.1 PS U O L fo se rs→W (q0 (y,w,ix,d,k,b,m,z,fo,se,rs,())) (LP w PS U ix m d k O L b z y rs))
 (hq1:∀l',LI w.1.1 PS u l'→l'.length=l.length+1→∀fo se rs,MI w.1.1 PS U O L fo se rs→W (q1 (u,p,l',w,ix,d,k,b,m,z,fo,se,rs,())) (CQ w PS U ix m d k O L b z u p l' ((cP L w.1.1 m u p (u.2.2.1.length -l'.length) l').run O) rs)):
 W (jy q0 q1 u p l w ix d k b m z fo se rs) (CQ w PS U ix m d k O L b z u p l ((cP L w.1.1 m u p (u.2.2.1.length -l.length) l).run O) rs):=by
 have hB:=hB
 have hR:RK (cR w.1.1 u):=X.wx.cg.tg.rules u hu
 by_cases hl:l.length=u.2.2.1.length
 ·have hdl:decide ((l.length:Int)=(u.2.2.1.length:Int))=true:=cE (by omega)
  rw[show u.2.2.1.length -l.length=0 by omega]
  refine⟨(Cz w.1.1 u l,u,p,w,ix,d,k,b,m,z,fo,se,l,rs),?_,fo,se,rfl,h,fun _=>rfl,fun _=>⟨hL,hl⟩⟩
  unfold jy
  rw[aA hdl,KD X.wx.cg.sw.nb (X.wx.cg.sw.rl u hu).2.1 hR hL hl];rfl
 ·have hll:=hL.len
  have hlt:l.length<u.2.2.1.length:=by omega
  have hn3:u.2.2.1.length≤3:=hR.n3
  have hF:FO (cR w.1.1 u) l.length:=hR.fo l.length hlt
  have hs0:0≤(nth aQ u.2.2.1 (l.length:Int)).2.2.1:=hF.s0
  have hs1:(nth aQ u.2.2.1 (l.length:Int)).2.2.1<(w.1.1.2.2.1.length:Int):=hF.s1
  have hpush:∀x:In,FV w.1.1 PS x (nth aQ u.2.2.1 (l.length:Int)).2.2.1→LI w.1.1 PS u (l++[x]):=fun x hx=>hL.push hlt hx
  have ho:rY u p l∈PS∧((nth aQ u.2.2.1 (l.length:Int)).2.2.2.1.2.2.1= -1∨(0≤(nth aQ u.2.2.1 (l.length:Int)).2.2.2.1.2.2.1∧(nth aQ u.2.2.1 (l.length:Int)).2.2.2.1.2.2.1<(l.length:Int)∧0≤(nth aQ u.2.2.1 (l.length:Int)).2.2.2.1.2.2.2.1∧(nth aQ u.2.2.1 (l.length:Int)).2.2.2.1.2.2.2.1<((nth bp l (nth aQ u.2.2.1 (l.length:Int)).2.2.2.1.2.2.1).2.2.2.1.length:Int))):=by
   unfold rY
   by_cases hvar:(nth aQ u.2.2.1 (l.length:Int)).2.2.2.1.2.2.1= -1
   ·grind
   ·rcases hF.of with h1|h1
    ·grind
    ·obtain⟨a1,a2,a3,a4,a5⟩:=yD hL (mL _) h1
     grind
  rw[Oo q0 q1 u p l b z fo se rs hlt ho.2]
  obtain⟨ho,_⟩:=ho
  rw[show u.2.2.1.length -l.length=(u.2.2.1.length -(l.length+1))+1 by omega]
  unfold cP
  have hn4:cn m (nth aQ u.2.2.1 (l.length:Int)).2.2.1≤4:=by unfold cn;grind
  have hch:∀x:In,LI w.1.1 PS u (l++[x])→∀fo se rs,MI w.1.1 PS U O L fo se rs→W (q1 (u,p,l++[x],w,ix,d,k,b,m,z,fo,se,rs,())) (CQ w PS U ix m d k O L b z u p (l++[x]) ((cP L w.1.1 m u p (u.2.2.1.length -(l.length+1)) (l++[x])).run O) rs):=fun x hx fo se rs hI=>by
   grind
  generalize cP L w.1.1 m u p (u.2.2.1.length -(l.length+1))=ch at hch ⊢
  generalize cn m (nth aQ u.2.2.1 (l.length:Int)).2.2.1=n at hn4 ⊢
  generalize rY u p l=o at ho ⊢
  generalize nth aQ u.2.2.1 (l.length:Int)=v at hs0 hs1 hpush hq0 ⊢
  let Y:Nat→(Bool×List In)×List Rd:=fun c=>(gV L ch v.2.2.1 o l (n -c) c).run O
  show W _ (CQ w PS U ix m d k O L b z u p l (Y 0) rs)
  refine bL.2 (W.ct (W.mono (sE (L:=nH q0 q1) rfl (fun c(s:FM×SM×List Rd)(r:cL _ _)=>CT (fun r=>(Y c).1=(false,l)∧∃fo' se',r=(u,p,w,ix,d,k,b,m,z,fo',se',l,cW s.2.2 (Y c).2)∧MI w.1.1 PS U O L fo' se' (cW s.2.2 (Y c).2)) (fun r=>(Y c).1.1=true∧∃fo' se',r=(true,u,p,w,ix,d,k,b,m,z,fo',se',(Y c).1.2,cW s.2.2 (Y c).2)∧MI w.1.1 PS U O L fo' se' (cW s.2.2 (Y c).2)∧LI w.1.1 PS u (Y c).1.2∧(Y c).1.2.length=u.2.2.1.length) r) n (fun c(s:FM×SM×List Rd)=>(o,(n:Int),(c:Int),u,p,w,ix,d,k,b,m,z,s.1,s.2.1,v,l,s.2.2)) (fun _ s=>MI w.1.1 PS U O L s.1 s.2.1 s.2.2) ?step ?stop (Int.toNat (n:Int)+1) 0 (fo,se,rs) (by omega) (by omega) h) fun r hr=>hr) (fun r hr=>?_) fun r hr=>?_)
  case step=>
   rintro rec c ⟨fo,se,rs⟩ hc hI kk
   dsimp only at hI ⊢
   have hw2:=nY c (by omega)
   have hcn:decide ((c:Int)<(n:Int))=true:=cE (by omega)
   have hl48:∀x:In,(l.length+List.length [x])*48≤aH:=fun x=>by grind
   have eY:Y c=((L (v.2.2.1,(o,((c:Int),())))).bind fun x=>if x.2.2.2.1=true then(ch (l++[x.1])).bind fun y=>if y.1=true then .ret y else gV L ch v.2.2.1 o l (n -(c+1)) (c+1) else gV L ch v.2.2.1 o l (n -(c+1)) (c+1):Qy (Bool×List In)).run O:=by
    show(gV _ _ _ _ _ _ _).run O=_
    rw[show n -c=(n -(c+1))+1 by omega]
    rfl
   rw[eY,Qy.run_bind,aA hcn]
   obtain⟨r,er,fo',se',rfl,h',hx,_⟩:=hq0 (v.2.2.1,(o,((c:Int),()))) (X.wx.pl _ _ _ hs0 hs1 ho (dE c) (by omega)) ho hlt rfl fo se rs hI
   rw[er,aM]
   dsimp only at h' hx ⊢
   generalize (L (v.2.2.1,(o,((c:Int),())))).run O=x at h' hx ⊢
   obtain⟨x,t⟩:=x
   dsimp only at h' hx ⊢
   cases hk:x.2.2.2.1 with
   |
    false=>
    rw[aC (by decide),aC (by decide),hw2,dW]
    exact kk (fo',se',cW rs t) h'
   |
    true=>
    rw[aA rfl,aA (hl48 x.1),aA rfl,Qy.run_bind]
    obtain⟨r,er2,fo2,se2,rfl,h2,y0,y1⟩:=hch x.1 (hpush x.1 (hx hk)) fo' se' (cW rs t) h'
    rw[er2,aM]
    generalize (ch (l++[x.1])).run O=y at h2 y0 y1 ⊢
    obtain⟨⟨y,l2⟩,t2⟩:=y
    dsimp only at h2 y0 y1 ⊢
    cases y with
    |
     true=>
     rw[aA rfl,aA rfl]
     unfold Qy.run
     rw[fL]
     rw[dW]
     exact⟨_,rfl,rfl,fo2,se2,rfl,h2,y1 rfl⟩
    |
     false=>
     have e:=y0 rfl
     subst e
     have e1:bq (((l++[x.1]).length:Int) -(1:Int))=(l.length:Int):=by
      rw[kG,kJ]
      rw[ik (by omega) (by omega)]
      omega
     have e3:(l.length:Int)≤((l++[x.1]).length:Int):=by rw[kG,kJ];omega
     have ff:¬false=true:=by decide
     rw[aC ff,e1,dV _,aA e3,jF,Nat.sub_zero,List.take_left,hw2,aC ff,dW,dW]
     exact kk (fo2,se2,cW (cW rs t) t2) h2
  case stop=>
   rintro rec ⟨fo,se,rs⟩ hI
   dsimp only at hI ⊢
   rw[aC (by grind)]
   have e:Y n=((false,l),[]):=by
    show(gV _ _ _ _ _ (n -n) _).run O=_
    rw[Nat.sub_self];rfl
   rw[e]
   exact⟨_,rfl,rfl,fo,se,rfl,hI⟩
  ·obtain⟨e0,fo',se',rfl,h'⟩:=hr
   exact⟨_,rfl,fo',se',by rw[e0],h',fun _=>by rw[e0],fun h=>by grind⟩
  ·obtain⟨e0,fo',se',rfl,h',h2⟩:=hr
   exact⟨fo',se',by rw[e0],h',(fun h=>by grind),fun _=>h2⟩
theorem Xj(X:MX w lo PS U ix m d k O L)(b:Bool)(z:Unit):∀n:Nat,
 (∀(p:Pl) fo se rs,MI w.1.1 PS U O L fo se rs→p∈U→p.2.1∈PS→5*(lo.idxOf p.1+1)≤n→W ((fc n).1 (p,w,ix,d,k,b,m,z,fo,se,rs,())) (LP w PS U ix m d k O L b z p rs))∧
 (∀u∈w.1.1.2.2.2.1,∀(q:Int) l fo se rs,MI w.1.1 PS U O L fo se rs→q∈PS→LI w.1.1 PS u l→5*lo.idxOf u.2.1+(u.2.2.1.length -l.length)+1≤n→W ((fc n).2 (u,q,l,w,ix,d,k,b,m,z,fo,se,rs,())) (CQ w PS U ix m d k O L b z u q l ((cP L w.1.1 m u q (u.2.2.1.length -l.length) l).run O) rs)):=by
 intro n
 induction n with
 |zero=>grind
 |
  succ n ih=>
  refine⟨fun p fo se rs h hU hP hn=>?_,fun u hu q l fo se rs h hP hL hn=>?_⟩
  ·exact SR X.my (fc n).1 (fc n).2 p (X.fix p) b z h hU hP fun hm=>On X _ _ p b z h hP hm fun u hu hup fo se rs h=>ih.2 u hu p.2.1 [] fo se rs h hP (LI.nil _ _ _) (by
    have hn3:u.2.2.1.length≤3:=(X.wx.cg.tg.rules u hu).n3
    grind)
  ·exact Oq X (fc n).1 (fc n).2 u hu q l b z h hP hL (fun y hy hyP hlt hy1 fo se rs h=>ih.1 y fo se rs h hy hyP (by
    have hpre:=X.wx.cg.rk.pre u hu _ (dc (t:=aQ) (l:=u.2.2.1) (dE l.length) (show(l.length:Int)<(u.2.2.1.length:Int) by omega))
    grind)) fun l' hL' hl' fo se rs h=>ih.2 u hu q l' fo se rs h hP hL' (by
    have:=hL'.len
    omega)
theorem CC(X:MX w lo PS U ix m d k O L)(b:Bool)(z:Unit)(p:Pl){rs:List Rd}(h:MI w.1.1 PS U O L fo se rs)(hU:p∈U)(hP:p.2.1∈PS):W (lZ p w ix d k b m z fo se rs) (LP w PS U ix m d k O L b z p rs):=by
 have hl:=X.wx.cg.rk.len
 have hm:=X.wx.cg.tg.many
 have hi:lo.idxOf p.1≤lo.length:=List.idxOf_le_length
 exact(Xj X b z iB).1 p fo se rs h hU hP (by show _≤18446744073709551616;omega)
theorem CD(X:MY w PS U ix d k O)(b:Bool)(z:Unit)(p:Pl)(hf:L p=jD w.1.1 m L p)(hm:¬aP (.int .i64) .bool p.1 (aX m)=true){rs:List Rd}(h:MI w.1.1 PS U O L fo se rs)(hU:p∈U)(hP:p.2.1∈PS):W (lZ p w ix d k b m z fo se rs) (LP w PS U ix m d k O L b z p rs):=by
 have key:∀n,W ((fc (n+1)).1 (p,w,ix,d,k,b,m,z,fo,se,rs,())) (LP w PS U ix m d k O L b z p rs):=fun n=>SR X (fc n).1 (fc n).2 p hf b z h hU hP fun h=>absurd h hm
 exact key 18446744073709551615
theorem CE(X:MY w PS U ix d k O)(b:Bool)(z:Unit)(p:Pl){rs:List Rd}(h:MI w.1.1 PS U O L fo se rs)(hU:p∈U)(hP:p.2.1∈PS)(ho:W (lZ p w ix d k b m z fo se rs) (LP w PS U ix m d k O L b z p rs)):W (dO p w ix d k b m z fo se rs) (LP w PS U ix m d k O L b z p rs):=by
 suffices hW:∃r,dO p w ix d k b m z fo se rs=some r by
  grind [Kr]
 have ho:=ho.imp fun r h=>h.1
 unfold dO
 cases hp:bT aK p fo with
 |true=>grind
 |
  false=>
  rw[aC (by decide)]
  split
  ·rw[SO];exact ho
  ·obtain⟨M,y,x,n,se',rs',e1,e2,e3,hl,_⟩:=SP X.wy p d k b m z h.fi hp hU hP
   have e4:nF n=some n:=rfl
   grind
abbrev Ky:=cN
abbrev Fa:=gM
abbrev iq(a p i:Int)(c:Nat):Ky:=(a,(p,(bq ((bq ((16:Int)*i))+(c:Int)),())))
abbrev kF(a p i d:Int)(c:Nat):Rd:=(iq a p i c,(d,(bq (d+(1:Int)),())))
def sg(d:Int)(r:Rd):Rd:=(r.1,(d,(bq (d+(1:Int)),())))
def Jh(s:cu)(a:Int):Bool:=(f117 s a).getD false
def Am(p i:Int):Bool:=(f118 p i).getD false
def KE(s:cu)(a c x:Int):Bool:=(f122 s a c x).getD false
def zI:In:=(0,(0,(0,([],()))))
def ln(s:cu)(V:Ky→Int×Bool)(a p i d:Int):Nat→Nat→List Int→List Rd→An
 |0,_,t,rs=>(true,(a,(p,(i,(t,())))),rs)
 |n+1,c,t,rs=>if((V (iq a p i c)).2&&KE s a c (V (iq a p i c)).1)=true then ln s V a p i d n (c+1) (t++[(V (iq a p i c)).1]) (rs++[kF a p i d c]) else(false,zI,rs++[kF a p i d c])
def pq(s:cu)(V:Ky→Int×Bool)(a p i d:Int):An:=
 if Jh s a=true∧Am p i=true∧0≤d∧d<1024 then ln s V a p i d ((cC s a).length -1) 1 [p] [] else(false,zI,[])
theorem vP{s:cu}{V:Ky→Int×Bool}{a p i d:Int}:∀(n c:Nat)(t:Ze)(rs:List Rd),(∀r∈rs,r∈(ln s V a p i d n c t rs).2.2)∧∀r∈(ln s V a p i d n c t rs).2.2,r∈rs∨∃e,c≤e∧e<c+n∧r=kF a p i d e
 |0,_,_,_=>⟨fun _ h=>h,fun _ h=>Or.inl h⟩
 |
  n+1,c,t,rs=>by
  unfold ln
  have hl:∀r∈rs++[kF a p i d c],r∈rs∨∃e,c≤e∧e<c+(n+1)∧r=kF a p i d e:=fun r hr=>(List.mem_append.1 hr).imp id fun h=>⟨c,dP _,by omega,List.mem_singleton.1 h⟩
  split
  ·obtain⟨h1,h2⟩:=vP (s:=s) (V:=V) (a:=a) (p:=p) (i:=i) (d:=d) n (c+1) (t++[(V (iq a p i c)).1]) (rs++[kF a p i d c])
   grind
  grind
variable{V':Ky→Int×Bool}{d':Int}
theorem CI{s:cu}{V:Ky→Int×Bool}{a p i d:Int}:∀(n c:Nat)(t:Ze)(rs:List Rd),(∀r∈(ln s V a p i d n c t rs).2.2,V' r.1=V r.1)→ln s V' a p i d' n c t (rs.map (sg d'))=((ln s V a p i d n c t rs).1,(ln s V a p i d n c t rs).2.1,(ln s V a p i d n c t rs).2.2.map (sg d'))
 |0,_,_,_,_=>rfl
 |
  n+1,c,t,rs,h=>by
  have hm:kF a p i d c∈(ln s V a p i d (n+1) c t rs).2.2:=by
   unfold ln
   split
   ·simp_all[vP]
   grind
  have e:V' (iq a p i c)=V (iq a p i c):=h _ hm
  have em:rs.map (sg d')++[kF a p i d' c]=(rs++[kF a p i d c]).map (sg d'):=by rw[gi];rfl
  unfold ln at h ⊢
  rw[e,em]
  split
  ·rename_i hc
   rw[aA hc] at h
   exact CI n (c+1) _ _ h
  ·rfl
theorem KF{s:cu}{V:Ky→Int×Bool}{a p i d:Int}{r:Rd}(h:r∈(pq s V a p i d).2.2):(∃c,c<(cC s a).length∧r=kF a p i d c)∧Jh s a=true∧Am p i=true∧0≤d∧d<1024:=by
 unfold pq at h
 split at h
 ·rename_i hc
  refine⟨?_,hc⟩
  rcases(vP _ _ _ _).2 r h with h|⟨e,e1,e2,e3⟩<;>grind
 grind
theorem CJ{s:cu}{V:Ky→Int×Bool}{a p i d:Int}(hd:0≤d∧d<1024↔0≤d'∧d'<1024)(h:∀r∈(pq s V a p i d).2.2,V' r.1=V r.1):pq s V' a p i d'=((pq s V a p i d).1,(pq s V a p i d).2.1,(pq s V a p i d).2.2.map (sg d')):=by
 unfold pq at h ⊢
 by_cases hc:Jh s a=true∧Am p i=true∧0≤d∧d<1024
 ·rw[aA hc] at h ⊢
  rw[aA ⟨hc.1,hc.2.1,hd.1 hc.2.2⟩]
  exact CI _ _ _ [] h
 grind
theorem KG{s:cu}{V:Ky→Int×Bool}{a p i d:Int}:(pq s V a p i d).2.2.map (sg d)=(pq s V a p i d).2.2:=by
 have h:=CJ (s:=s) (V:=V) (V':=V) (a:=a) (p:=p) (i:=i) Iff.rfl (d:=d) fun _ _=>rfl
 grind
theorem Ji(v:bz)(s:cu)(hN:NB s)(hl:v.2.1.length≤aH)(c:Nat)(a p i d k:Int)(rs:List Rd)(hr:(rs.length+1)*40≤aH):
 oB (c:Int) a p i d v k s rs=some ((uw v.2.1 (iq a p i c) d k).1,((uw v.2.1 (iq a p i c) d k).2&&KE s a c (uw v.2.1 (iq a p i c) d k).1),a,p,i,d,v,k,s,rs++[kF a p i d c]):=by
 have e:yY v.2.1 (a,(p,(bq ((bq ((16:Int)*i))+(c:Int)),()))) d k=some (uw v.2.1 (iq a p i c) d k):=aA hl
 unfold oB f120
 rw[aM,aA (by grind),e,aM]
 generalize uw v.2.1 (iq a p i c) d k=r
 obtain⟨x,b⟩:=r
 dsimp only
 cases b with
 |false=>rfl
 |
  true=>
  obtain⟨q,hq⟩:=tu s hN a (c:Int) x
  simp_all[KE]
theorem Hm(p i:Int):f118 p i=some (Am p i)∧(Am p i=true→0≤i∧i<4):=by
 have hs:∃z,f118 p i=some z∧(z=true→0≤i∧i<4):=by
  unfold f118
  have no:∀y:Zm,y=some false→∃z,y=some z∧(z=true→0≤i∧i<4):=fun y hy=>⟨false,hy,fun h=>(by cases h)⟩
  by_cases i0:0≤i
  ·by_cases i1:i<4
   ·have yes:∀y:Zm,(∃z,y=some z)→∃z,y=some z∧(z=true→0≤i∧i<4):=fun y ⟨z,hz⟩=>⟨z,hz,fun _=>⟨i0,i1⟩⟩
    apply yes
    refine kr ?_ fun v=>⟨v,rfl⟩
    repeat' (first|exact⟨_,rfl⟩|split)
   simp_all
  simp_all[du]
 grind [Am]
theorem Ot(v:bz)(hN:NB v.1.1)(hR:v.1.1.2.2.2.1.length≤aH)(hF:∀a,0≤a→a<(v.1.1.2.2.1.length:Int)→(cC v.1.1 a).length≤1000)(hl:v.2.1.length≤aH)(a p i d k:Int):
 f87 v a p i d k=some (pq v.1.1 (fun q=>uw v.2.1 q d k) a p i d):=by
 have hB:=hB
 suffices hW:W (f87 v a p i d k) fun r=>r=pq v.1.1 (fun q=>uw v.2.1 q d k) a p i d by
  obtain⟨r,e,rfl⟩:=hW
  exact e
 obtain⟨b,e,hb⟩:=mD v.1.1 hR a
 have eb:Jh v.1.1 a=b:=by unfold Jh;grind
 obtain⟨hz,_⟩:=Hm p i
 unfold f87 pq
 rw[e,aM,eb]
 cases b with
 |false=>exact⟨_,rfl,(aC fun h=>(by cases h.1)).symm⟩
 |
  true=>
  obtain⟨a0,a1,a2⟩:=hb rfl
  rw[aC (by decide),hz,aM]
  cases Am p i with
  |false=>exact⟨_,rfl,(aC fun h=>(by grind)).symm⟩
  |
   true=>
   rw[aC (by decide)]
   by_cases d0:d<0
   ·rw[cz d0];exact⟨_,rfl,(aC fun h=>by omega).symm⟩
   ·rw[aC (show¬decide (d<(0:Int))=true by grind)]
    by_cases d1:(1024:Int)≤d
    ·rw[cE d1];exact⟨_,rfl,(aC fun h=>by omega).symm⟩
    ·rw[du d1,aM,aC (by decide),aG,aA ⟨rfl,rfl,by omega,by omega⟩]
     dsimp only
     have hFa:=hF a a0 a1
     have e:(nth bF v.1.1.2.2.1 a).2.2.2.2.1=cC v.1.1 a:=rfl
     let Y:Nat→List Int→List Rd→An:=fun c t s=>ln v.1.1 (fun q=>uw v.2.1 q d k) a p i d ((cC v.1.1 a).length -c) c t s
     refine bL.2 (W.ct (W.mono (sE (L:=Gn) rfl (fun c(u:List Int×List Rd)(r:cL _ _)=>CT (fun r=>∃t s,r=(a,p,i,0,0,0,t,s)∧Y c u.1 u.2=(true,(a,(p,(i,(t,())))),s)) (fun r=>r=Y c u.1 u.2) r) (cC v.1.1 a).length (fun c(u:List Int×List Rd)=>((c:Int),v,a,p,i,d,k,0,0,0,v.1.1,u.1,u.2)) (fun c u=>u.1.length≤c∧u.2.length≤c) ?step ?stop iB 1 ([p],[]) (by show _<18446744073709551616;omega) (by omega) ⟨dP _,gY _⟩) fun r hr=>hr) (fun r hr=>?_) fun r hr=>hr)
     case step=>
      rintro rec c ⟨t,s⟩ hc ⟨ht,hs⟩ kk
      dsimp only at ht hs ⊢
      have hw2:=nY c (by omega)
      rw[e,aA a0,aA a1,cz (by omega),Ji v v.1.1 hN hl c a p i d k s (by omega),aM]
      have eY:Y c t s=if((uw v.2.1 (iq a p i c) d k).2&&KE v.1.1 a c (uw v.2.1 (iq a p i c) d k).1)=true then Y (c+1) (t++[(uw v.2.1 (iq a p i c) d k).1]) (s++[kF a p i d c]) else(false,zI,s++[kF a p i d c]):=by
       show ln _ _ _ _ _ _ _ _ _ _=_
       rw[show(cC v.1.1 a).length -c=((cC v.1.1 a).length -(c+1))+1 by omega]
       rfl
      rw[eY]
      dsimp only
      cases(uw v.2.1 (iq a p i c) d k).2&&KE v.1.1 a c (uw v.2.1 (iq a p i c) d k).1 with
      |false=>exact⟨_,rfl,rfl⟩
      |
       true=>
       rw[aC (by decide),aA rfl,aA (show(t.length+List.length [_])*8≤aH by grind),hw2]
       simp_all
     case stop=>
      rintro rec ⟨t,s⟩ _
      dsimp only
      rw[e,aA a0,aA a1,aC (by grind)]
      refine⟨_,rfl,t,s,rfl,?_⟩
      show ln _ _ _ _ _ _ (_ -_) _ _ _=_
      rw[Nat.sub_self]
      rfl
     ·obtain⟨t,s,rfl,h⟩:=hr
      exact⟨_,rfl,h.symm⟩
theorem KH{g:Nat→List β}:∀n:Nat,(∀c<n,g c= [])→(List.range n).flatMap g= []
 |0,_=>rfl
 |
  n+1,h=>by
  simp_all
theorem CM{g:Nat→List β}{c:Nat}:∀n:Nat,c<n→(∀x<n,x≠c→g x= [])→(List.range n).flatMap g=g c
 |0,h,_=>by omega
 |
  n+1,h,hx=>by
  rw[List.range_succ,List.flatMap_append,List.flatMap_cons,List.flatMap_nil,fL]
  by_cases e:c=n
  ·grind [KH]
  ·rw[CM n (by omega) fun x hx'=>hx x (by omega),hx n (by omega) (by omega),fL]
def rZ(s:cu)(l:List Fa)(p:Pl):List Fa:=if 0≤p.1∧p.1<(s.2.2.1.length:Int) then(List.range (cC s p.1).length).flatMap fun(c:Nat)=>iT (iq p.1 p.2.1 p.2.2.1 c) l else[]
theorem Jj(s:cu)(l:List Fa)(ix:List (Ky×List Fa))(h:∀key,aP aK (.slice 64 bJ) key ix=iT key l)(p:Pl):iC s (some ix) p=rZ s l p:=by
 have e:(fun(c:Nat)=>aP aK (.slice 64 bJ) (p.1,(p.2.1,(bq ((bq ((16:Int)*p.2.2.1))+(c:Int)),()))) (aX (some ix)))=fun(c:Nat)=>iT (iq p.1 p.2.1 p.2.2.1 c) l:=funext fun c=>h _
 unfold iC rZ
 rw[e]
theorem KJ{a p i:Int}(i0:0≤i)(i1:i<4){c e:Nat}(hc:c≤1000)(he:e≤1000)(h:iq a p i c=iq a p i e):c=e:=by
 have h1:bq ((bq ((16:Int)*i))+(c:Int))=bq ((bq ((16:Int)*i))+(e:Int)):=congrArg (fun k:Ky=>k.2.2.1) h
 grind [ik]
theorem KL(s:cu)(l:List Fa){a p i:Int}(a0:0≤a)(a1:a<(s.2.2.1.length:Int))(hF:(cC s a).length≤1000)(i0:0≤i)(i1:i<4){c:Nat}(hc:c<(cC s a).length)(d k:Int):
 uw (rZ s l (a,(p,(i,())))) (iq a p i c) d k=uw l (iq a p i c) d k:=by
 have e:(rZ s l (a,(p,(i,())))).filter (lA (iq a p i c) k)=l.filter (lA (iq a p i c) k):=by
  have e1:rZ s l (a,(p,(i,())))=(List.range (cC s a).length).flatMap fun(c:Nat)=>iT (iq a p i c) l:=aA ⟨a0,a1⟩
  rw[e1,List.filter_flatMap]
  rw[CM (c:=c) _ hc fun x hx hne=>?_]
  ·unfold iT
   rw[List.filter_filter]
   refine List.filter_congr fun x _=>?_
   simp_all[lA]
  ·unfold iT
   rw[List.filter_filter]
   refine List.filter_eq_nil_iff.2 fun y _=>?_
   intro h
   have h:=Bool.and_eq_true_iff.1 h
   have h1:=(Bool.and_eq_true_iff.1 h.1).1
   have q1:=(cM aK y.1 (iq a p i c)).1 h1
   have q2:=(cM aK y.1 (iq a p i x)).1 h.2
   exact hne (KJ i0 i1 (by omega) (by omega) (q2.symm.trans q1))
 unfold uw lB
 rw[e]
def Oa(w:bz)(d k:Int)(p:Pl):An:=pq w.1.1 (fun q=>uw w.2.1 q d k) p.1 p.2.1 p.2.2.1 d
theorem MYo{PS:Ze}{ix:List (Ky×List Fa)}(hw:WY w PS U (some ix))(_hf:w.2.1.length≤1000)(h:∀key,aP aK (.slice 64 bJ) key ix=iT key w.2.1)(d k:Int):MY w PS U (some ix) d k (Oa w d k):=by
 have hB:=hB
 refine⟨hw,fun p hP=>?_⟩
 have hpl:(iC w.1.1 (some ix) p).length≤aH:=by
  obtain⟨L,e,hL,_⟩:=Cy hw p d k true none () [] [] []
  rw[Hk hw p d k true none () [] [] []] at e
  grind
 rw[Ot (w.1,(iC w.1.1 (some ix) p,())) hw.sw.nb hw.sw.rules hw.fl hpl,Jj w.1.1 w.2.1 ix h]
 unfold Oa
 rw[CJ (d':=d) Iff.rfl (V:=fun q=>uw w.2.1 q d k) (V':=fun q=>uw (rZ w.1.1 w.2.1 p) q d k) fun r hr=>?_,KG]
 obtain⟨⟨c,hc,rfl⟩,h1,h2,_⟩:=KF hr
 obtain⟨b,eb,hb⟩:=mD w.1.1 hw.sw.rules p.1
 have h1:b=true:=by grind [Jh]
 obtain⟨a0,a1,_⟩:=hb h1
 obtain⟨i0,i1⟩:=(Hm _ _).2 h2
 exact KL w.1.1 w.2.1 (p:=p.2.1) a0 a1 (hw.fl _ a0 a1) i0 i1 hc d k
theorem MXo{PS:Ze}{ix:List (Ky×List Fa)}(hw:WX w lo PS U (some ix))(hf:w.2.1.length≤1000)(h:∀key,aP aK (.slice 64 bJ) key ix=iT key w.2.1)(m:DM)(d k:Int):MX w lo PS U (some ix) m d k (Oa w d k) (LQ w.1.1 m lo):=⟨hw,MYo hw.y hf h d k,CB hw.cg.rk.pre m⟩
variable{w:bz} {lo PS:Ze} {U:List Pl} {ix:Ix} {m:DM} {d k:Int} {O:Pl→An} {L:Pl→Qy Rs}
def yb(b:Bool)(m:DM)(a p d:Int):Bool:=b&&(aP (.int .i64) .bool a (aX m)&&(decide ((0:Int)≤p)&&(decide (p<(4096:Int))&&(decide ((0:Int)≤d)&&decide (d<(1024:Int))))))
theorem CN(a p:Int)(w:bz)(ix:Ix)(d k:Int)(b:Bool)(m:DM)(z:Unit)(fo:FM)(se:SM)(rs:List Rd):
 vK a p w ix d k b m z fo se rs=some (yb b m a p d,w,ix,d,k,b,m,z,fo,se,rs):=by
 grind [vK,yb]
def uJ(b:Bool)(m:DM)(a p d i:Int):Bool:= !aP (.int .i64) .bool a (aX m)||(decide (i=0)&&yb b m a p d)
def Ri(O:Pl→An)(L:Pl→Qy Rs)(b:Bool)(m:DM)(a p d i:Int):List Rd:=if uJ b m a p d i=true then((L (a,(p,(i,())))).run O).2 else[]
def Fv(O:Pl→An)(L:Pl→Qy Rs)(b:Bool)(m:DM)(a p d i:Int):Bool×In:=if uJ b m a p d i=true then(((L (a,(p,(i,())))).run O).1.2.2.2.1,((L (a,(p,(i,())))).run O).1.1) else(false,zI)
def Uu(w:bz)(p a:Int):List Pl:=((List.range 4).map fun(j:Nat)=>(a,(p,((j:Int),()))))++Uo w p (a,(p,((0:Int),())))
theorem EI(p a:Int)(hT:FT w.1.1)(hf:w.2.1.length≤60):(Uu w p a).length≤2200:=by
 grind [KC,Uu]
theorem WXu(hc:CG w.1.1 lo)(hT:FT w.1.1)(hf:w.2.1.length≤60)(p a:Int)(hix:IX (Cp w p) ix):WX w lo (Cp w p) (Uu w p a) ix:=
 {WXo hc hT hf p (a,(p,((0:Int),()))) hix with
  pl:=fun b q i h0 h1 h2 h3 h4=>kK _ ((WXo hc hT hf p (a,(p,((0:Int),()))) hix).pl b q i h0 h1 h2 h3 h4)
  len:=dh (EI p a hT hf) (by decide)}
theorem WYu(hs:SA w.1.1)(hT:FT w.1.1)(hf:w.2.1.length≤60)(p a:Int)(hix:IX (Cp w p) ix):WY w (Cp w p) (Uu w p a) ix:=
 ⟨hs.sw,dh (EI p a hT hf) (by decide),fun a a0 a1=>dh (hT.fields _ (dc (t:=bF) (l:=w.1.1.2.2.1) a0 a1)) (by decide),hix⟩
theorem IXo(hf:w.2.1.length≤60)(p:Int){ix:List (Ky×List Fa)}(h:∀key,aP aK (.slice 64 bJ) key ix=iT key w.2.1):IX (Cp w p) (some ix):=fun key=>by
 have e:aP aK (.slice 64 bJ) key (aX (some ix))=iT key w.2.1:=h key
 have hle:(iT key w.2.1).length≤w.2.1.length:=yO ..
 rw[e]
 exact⟨by omega,fun f hf=>dj _ (dj _ (j4 _ (List.mem_map.2 ⟨f,(List.mem_filter.1 hf).1,rfl⟩)))⟩
abbrev dM(w:bz):DM:=some (ya w.1.1.2.2.2.1)
def LL(w:bz)(lo:Ze)(r:Int):Pl→Qy Rs:=if r=0 then LQ w.1.1 (dM w) lo else jD w.1.1 (dM w) fun _=>.ret zR
theorem KM(hs:SA w.1.1)(hT:FT w.1.1)(hf:w.2.1.length≤60){r:Int}(hcg:r=0→CG w.1.1 lo)(a0 a p:Int){ix:List (Ky×List Fa)}(h:∀key,aP aK (.slice 64 bJ) key ix=iT key w.2.1)(d k:Int)(z:Unit){i:Int}(hU:(a,(p,(i,())))∈Uu w p a0)(hl:uJ (decide (r=0)) (dM w) a p d i=true)(fo:FM)(se:SM)(rs:List Rd)(hI:MI w.1.1 (Cp w p) (Uu w p a0) (Oa w d k) (LL w lo r) fo se rs):
 W (dO (a,(p,(i,()))) w (some ix) d k (decide (r=0)) (dM w) z fo se rs) (LP w (Cp w p) (Uu w p a0) (some ix) (dM w) d k (Oa w d k) (LL w lo r) (decide (r=0)) z (a,(p,(i,()))) rs):=by
 have hP:p∈Cp w p:=dj _ (cm ..)
 have hix:=IXo hf p h
 have Y:=MYo (WYu hs hT hf p a0 hix) (by omega) h d k
 refine CE Y _ z _ hI hU hP ?_
 by_cases hm:aP (.int .i64) .bool a (aX (dM w))=true
 ·have hr:r=0:=by
   refine Classical.byContradiction fun hr=>?_
   grind [uJ,yb]
  have X:=MXo (WXu (hcg hr) hT hf p a0 hix) (by omega) h (dM w) d k
  have e:LL w lo r=LQ w.1.1 (dM w) lo:=aA hr
  grind [CC]
 ·refine CD Y _ z _ ?_ hm hI hU hP
  unfold LL
  by_cases hr:r=0
  ·rw[aA hr];exact CB (hcg hr).rk.pre _ _
  simp_all[jD]
variable{ch:Ru→Qy (Bool×List In)}
theorem r9{R:List Ru}{a:Int}{O:Pl→An}:∀n c,((eK ch bd R a n c).run O).1.2.2.2.1=true∨((eK ch bd R a n c).run O).1=zR
 |0,_=>Or.inr rfl
 |
  n+1,c=>by
  unfold eK
  split
  ·rw[Qy.run_bind]
   dsimp only
   split
   ·exact Or.inl rfl
   ·exact r9 n (c+1)
  ·exact r9 n (c+1)
variable{w:bz} {lo PS:Ze} {U:List Pl} {ix:Ix} {m:DM} {d k:Int} {O:Pl→An} {L:Pl→Qy Rs}
theorem TT(a p i:Int)(b:Bool)(z:Unit){rs:List Rd}(h:MI w.1.1 PS U O L fo se rs)
 (hk:uJ b m a p d i=true→W (dO (a,(p,(i,()))) w ix d k b m z fo se rs) (LP w PS U ix m d k O L b z (a,(p,(i,()))) rs)):
 W (A6 a p i w ix d k b m z fo se rs) fun r=>∃fo' se',r=((Fv O L b m a p d i).1,w,ix,d,k,b,m,z,fo',se',(Fv O L b m a p d i).2,cW rs (Ri O L b m a p d i))∧MI w.1.1 PS U O L fo' se' (cW rs (Ri O L b m a p d i))∧((Fv O L b m a p d i).1=true→FV w.1.1 PS (Fv O L b m a p d i).2 a):=by
 unfold A6 Ri Fv
 have go:uJ b m a p d i=true→W ((dO (a,(p,(i,()))) w ix d k b m z fo se rs).bind fun⟨z,aa,ab,ac,ad,ae,af,ag,ah,y,ai⟩=>some (y.2.2.2.1,z,aa,ab,ac,ad,ae,af,ag,ah,y.1,ai)) fun r=>∃fo' se',r=(((L (a,(p,(i,())))).run O).1.2.2.2.1,w,ix,d,k,b,m,z,fo',se',((L (a,(p,(i,())))).run O).1.1,cW rs ((L (a,(p,(i,())))).run O).2)∧MI w.1.1 PS U O L fo' se' (cW rs ((L (a,(p,(i,())))).run O).2)∧(((L (a,(p,(i,())))).run O).1.2.2.2.1=true→FV w.1.1 PS ((L (a,(p,(i,())))).run O).1.1 a):=fun hl=>by
  refine pA.2 ((hk hl).mono fun r hr=>?_)
  obtain⟨fo',se',rfl,h',hx,_⟩:=hr
  exact⟨_,rfl,fo',se',rfl,h',hx⟩
 cases hm:aP (.int .i64) .bool a (aX m) with
 |
  false=>
  simp_all[uJ,aG]
 |
  true=>
  rw[aA rfl]
  by_cases hi:i=0
  ·rw[aC (show¬(!decide (i=(0:Int)))=true by simp[hi]),CN,aM]
   dsimp only
   have hl:uJ b m a p d i=yb b m a p d:=by grind [uJ]
   rw[hl] at go ⊢
   cases hb:yb b m a p d with
   |
    false=>
    rw[aA (show(!false)=true from rfl),aC (by decide),aC (by decide)]
    exact⟨_,rfl,fo,se,rfl,h,fun h=>(by cases h)⟩
   |
    true=>
    simp_all[aG]
  ·have hl:uJ b m a p d i=false:=by grind [uJ]
   rw[aA (show(!decide (i=(0:Int)))=true by simp[hi]),hl,aC (by decide),aC (by decide)]
   exact⟨_,rfl,fo,se,rfl,h,fun h=>(by cases h)⟩
variable{w:bz} {lo PS:Ze} {U:List Pl} {ix:Ix} {m:DM} {d k:Int} {O:Pl→An} {L:Pl→Qy Rs}
def Hn(L:Pl→Qy Rs)(b:Bool)(m:DM)(a p d i:Int):Qy (Bool×In):=if uJ b m a p d i=true then(L (a,(p,(i,())))).bind fun r=>.ret (r.2.2.2.1,r.1) else .ret (false,zI)
theorem Ao(a:α):(Qy.ret a).run O=(a,[]):=rfl
theorem Jk(b:Bool)(a p i:Int):(Hn L b m a p d i).run O=(Fv O L b m a p d i,Ri O L b m a p d i):=by
 unfold Hn Fv Ri
 by_cases h:uJ b m a p d i=true
 ·simp_all[Qy.run_bind,Ao]
 ·rw[aC h,aC h,aC h];rfl
def uK(L:Pl→Qy Rs)(b:Bool)(m:DM)(a p d:Int):Nat→Nat→Qy (List In)
 |0,_=>.ret []
 |n+1,c=>(Hn L b m a p d (c:Int)).bind fun y=>(uK L b m a p d n (c+1)).bind fun l=>.ret (if y.1=true then y.2::l else l)
def uL(L:Pl→Qy Rs)(b:Bool)(m:DM)(p d:Int):Nat→Nat→Qy (List In)
 |0,_=>.ret []
 |n+1,a=>(uK L b m (a:Int) p d (cn m (a:Int)) 0).bind fun l1=>(uL L b m p d n (a+1)).bind fun l2=>.ret (l1++l2)
theorem qm(b:Bool)(a p:Int)(n c:Nat):(uK L b m a p d (n+1) c).run O=((if(Fv O L b m a p d (c:Int)).1=true then(Fv O L b m a p d (c:Int)).2::((uK L b m a p d n (c+1)).run O).1 else((uK L b m a p d n (c+1)).run O).1),Ri O L b m a p d (c:Int)++((uK L b m a p d n (c+1)).run O).2):=by
 show((Hn L b m a p d (c:Int)).bind _).run O=_
 grind [Qy.run_bind,Jk,Ao]
theorem mE(b:Bool)(p:Int)(n a:Nat):(uL L b m p d (n+1) a).run O=(((uK L b m (a:Int) p d (cn m (a:Int)) 0).run O).1++((uL L b m p d n (a+1)).run O).1,((uK L b m (a:Int) p d (cn m (a:Int)) 0).run O).2++((uL L b m p d n (a+1)).run O).2):=by
 show((uK L b m (a:Int) p d (cn m (a:Int)) 0).bind _).run O=_
 grind [Qy.run_bind,Ao]
theorem Ho(hw:WY w PS U ix)(a p:Int)(a0:0≤a)(a1:a<(w.1.1.2.2.1.length:Int))(N:Int)(n:Nat)(hn:n≤4)(b:Bool)(z:Unit)
 (hk:∀i:Int,0≤i→i<4→uJ b m a p d i=true→∀fo se rs,MI w.1.1 PS U O L fo se rs→W (dO (a,(p,(i,()))) w ix d k b m z fo se rs) (LP w PS U ix m d k O L b z (a,(p,(i,()))) rs))   {rs:List Rd} (h:MI w.1.1 PS U O L fo se rs) (l:List In) (hl:l.length≤1000) (hv:∀x∈l,x.2.2.2.1.length≤1000):
 W (iL (Int.toNat (n:Int)+1) (p,a,N,a,(n:Int),0,w,ix,d,k,b,m,z,fo,se,l,rs)) (CT (fun r=>∃fo' se',r=(p,N,a,w,ix,d,k,b,m,z,fo',se',l++((uK L b m a p d n 0).run O).1,cW rs ((uK L b m a p d n 0).run O).2)∧MI w.1.1 PS U O L fo' se' (cW rs ((uK L b m a p d n 0).run O).2)∧(l++((uK L b m a p d n 0).run O).1).length≤l.length+4∧∀x∈l++((uK L b m a p d n 0).run O).1,x.2.2.2.1.length≤1000) fun _=>False):=by
 have hB:=hB
 let Y:Nat→List In×List Rd:=fun c=>(uK L b m a p d (n -c) c).run O
 refine W.mono (sE (L:=iL) rfl (fun c(s:FM×SM×List In×List Rd)(r:cL _ _)=>CT (fun r=>∃fo' se',r=(p,N,a,w,ix,d,k,b,m,z,fo',se',s.2.2.1++(Y c).1,cW s.2.2.2 (Y c).2)∧MI w.1.1 PS U O L fo' se' (cW s.2.2.2 (Y c).2)∧(s.2.2.1++(Y c).1).length≤s.2.2.1.length+(4 -c)∧∀x∈s.2.2.1++(Y c).1,x.2.2.2.1.length≤1000) (fun _=>False) r) n (fun c(s:FM×SM×List In×List Rd)=>(p,a,N,a,(n:Int),(c:Int),w,ix,d,k,b,m,z,s.1,s.2.1,s.2.2.1,s.2.2.2)) (fun c s=>MI w.1.1 PS U O L s.1 s.2.1 s.2.2.2∧s.2.2.1.length≤1000+c∧∀x∈s.2.2.1,x.2.2.2.1.length≤1000) ?step ?stop _ 0 (fo,se,l,rs) (by omega) (by omega) ⟨h,by omega,hv⟩) fun r hr=> ?fin
 case fin=>exact hr
 case step=>
  rintro rec c ⟨fo,se,l,rs⟩ hc ⟨hI,hl,hv⟩ kk
  dsimp only at hI hl hv ⊢
  have hw2:=nY c (by omega)
  have eY:Y c=((if(Fv O L b m a p d (c:Int)).1=true then(Fv O L b m a p d (c:Int)).2::(Y (c+1)).1 else(Y (c+1)).1),Ri O L b m a p d (c:Int)++(Y (c+1)).2):=by
   show(uK _ _ _ _ _ _ _ _).run O=_
   rw[show n -c=(n -(c+1))+1 by omega,qm]
  rw[cz (by omega),eY]
  refine pA.2 ((TT a p (c:Int) b z hI fun hl=>hk _ (dE c) (by omega) hl fo se rs hI).mono fun r hr=>?_)
  obtain⟨fo',se',rfl,h',hx⟩:=hr
  dsimp only
  rw[dW,hw2]
  generalize Fv O L b m a p d (c:Int)=y at hx ⊢
  obtain⟨y,x⟩:=y
  dsimp only at hx ⊢
  cases y with
  |
   true=>
   have hxl:x.2.2.2.1.length≤1000:=by rw[(hx rfl).1];exact hw.fl a a0 a1
   rw[aA rfl,aA (show(l.length+List.length [x])*48≤aH by grind),aA rfl]
   refine(kk (fo',se',l++[x],cW rs (Ri O L b m a p d (c:Int))) ⟨h',by grind,fun y hy=>?_⟩).ct (fun r hr=>?_) fun r hr=>hr
   ·grind
   ·obtain⟨fo2,se2,rfl,g1,g2,g3⟩:=hr
    dsimp only at g1 g2 g3 ⊢
    have e:l++[x]++(Y (c+1)).1=l++x::(Y (c+1)).1:=by grind
    rw[e] at g2 g3 ⊢
    simp only[kG,gP,List.length_nil] at g2 ⊢
    grind
  |
   false=>
   rw[aC (by decide),aC (by decide)]
   refine(kk (fo',se',l,cW rs (Ri O L b m a p d (c:Int))) ⟨h',by grind,hv⟩).ct (fun r hr=>?_) fun r hr=>hr
   obtain⟨fo2,se2,rfl,g1,g2,g3⟩:=hr
   dsimp only at g1 g2 g3 ⊢
   exact⟨fo2,se2,rfl,g1,by omega,g3⟩
 case stop=>
  rintro rec ⟨fo,se,l,rs⟩ ⟨hI,hl,hv⟩
  dsimp only at hI hl hv ⊢
  rw[aC (by grind)]
  have e:Y n=([],[]):=by
   show(uK _ _ _ _ _ _ (n -n) _).run O=_
   rw[Nat.sub_self];rfl
  rw[e]
  refine⟨_,rfl,fo,se,by rw[fL];rfl,hI,by grind,by grind⟩
theorem Xk(hw:WY w PS U ix)(hn:w.1.1.2.2.1.length≤6)(p:Int)(b:Bool)(z:Unit)
 (hk:∀a i:Int,0≤a→a<(w.1.1.2.2.1.length:Int)→0≤i→i<4→uJ b m a p d i=true→∀fo se rs,MI w.1.1 PS U O L fo se rs→W (dO (a,(p,(i,()))) w ix d k b m z fo se rs) (LP w PS U ix m d k O L b z (a,(p,(i,()))) rs)):
 W (ny p w ix d k b m z [] [] []) fun r=>∃fo' se',r=(((uL L b m p d w.1.1.2.2.1.length 0).run O).1,w,ix,d,k,b,m,z,fo',se',cW [] ((uL L b m p d w.1.1.2.2.1.length 0).run O).2)∧MI w.1.1 PS U O L fo' se' (cW [] ((uL L b m p d w.1.1.2.2.1.length 0).run O).2)∧((uL L b m p d w.1.1.2.2.1.length 0).run O).1.length≤24∧∀x∈((uL L b m p d w.1.1.2.2.1.length 0).run O).1,x.2.2.2.1.length≤1000:=by
 have hB:=hB
 let Y:Nat→List In×List Rd:=fun c=>(uL L b m p d (w.1.1.2.2.1.length -c) c).run O
 unfold ny
 refine bL.2 ((W.mono (sE (L:=sQ) rfl (fun c(s:FM×SM×List In×List Rd)(r:cL _ _)=>CT (fun r=>∃fo' se',r=(w,ix,d,k,b,m,z,fo',se',s.2.2.1++(Y c).1,cW s.2.2.2 (Y c).2)∧MI w.1.1 PS U O L fo' se' (cW s.2.2.2 (Y c).2)∧(s.2.2.1++(Y c).1).length≤s.2.2.1.length+4*(6 -c)∧∀x∈s.2.2.1++(Y c).1,x.2.2.2.1.length≤1000) (fun _=>False) r) w.1.1.2.2.1.length (fun c(s:FM×SM×List In×List Rd)=>(p,(w.1.1.2.2.1.length:Int),(c:Int),w,ix,d,k,b,m,z,s.1,s.2.1,s.2.2.1,s.2.2.2)) (fun c s=>MI w.1.1 PS U O L s.1 s.2.1 s.2.2.2∧s.2.2.1.length≤4*c∧∀x∈s.2.2.1,x.2.2.2.1.length≤1000) ?step ?stop _ 0 ([],[],[],[]) (by omega) (by omega) ⟨MI.nil _ _ _ _ _,dP _,fun x hx=>(by cases hx)⟩) fun r hr=>hr).ct (fun r hr=>?_) fun r hr=>hr.elim)
 case step=>
  rintro rec c ⟨fo,se,l,rs⟩ hc ⟨hI,hl,hv⟩ kk
  dsimp only at hI hl hv ⊢
  have hw2:=nY c (by omega)
  have eY:Y c=(((uK L b m (c:Int) p d (cn m (c:Int)) 0).run O).1++(Y (c+1)).1,((uK L b m (c:Int) p d (cn m (c:Int)) 0).run O).2++(Y (c+1)).2):=by
   show(uL _ _ _ _ _ _ _).run O=_
   rw[show w.1.1.2.2.1.length -c=(w.1.1.2.2.1.length -(c+1))+1 by omega,mE]
  have hn4:cn m (c:Int)≤4:=by unfold cn;grind
  have hit:=Ho (L:=L) (O:=O) (m:=m) (d:=d) (k:=k) hw (c:Int) p (dE c) (by omega) (w.1.1.2.2.1.length:Int) (cn m (c:Int)) hn4 b z (fun i h0 h1=>hk (c:Int) i (dE c) (by omega) h0 h1) hI l (by omega) hv
  rw[cz (by omega),eY]
  refine bL.2 ?_
  have e:aI (U:=Int×Int×Int×Int×Int×bz×Ix×Int×Int×Bool×DM×Unit×FM×SM×List In×List Rd) (if(aP (.int .i64) .bool (c:Int) (aX m))=true then(some (.brk (p,(c:Int),1,(w.1.1.2.2.1.length:Int),(c:Int),w,ix,d,k,b,m,z,fo,se,l,rs))) else(some (.brk (p,(c:Int),4,(w.1.1.2.2.1.length:Int),(c:Int),w,ix,d,k,b,m,z,fo,se,l,rs)))) (fun⟨b,c,a,d,e,f,g,h,i,j,k,l,m,n,o,p⟩=>iL (Int.toNat a+1) (b,c,d,e,a,0,f,g,h,i,j,k,l,m,n,o,p))=iL (Int.toNat ((cn m (c:Int):Nat):Int)+1) (p,(c:Int),(w.1.1.2.2.1.length:Int),(c:Int),((cn m (c:Int):Nat):Int),0,w,ix,d,k,b,m,z,fo,se,l,rs):=by
   unfold cn
   by_cases hm:aP (.int .i64) .bool (c:Int) (aX m)=true
   ·rw[aA hm,aA hm,aG];rfl
   ·rw[aC hm,aC hm,aG];rfl
  rw[e]
  refine hit.ct (fun r hr=>?_) fun r hr=>hr.elim
  obtain⟨fo',se',rfl,h',g1,g2⟩:=hr
  dsimp only
  rw[hw2]
  refine(kk (fo',se',_,_) ⟨h',by grind,g2⟩).ct (fun r hr=>?_) fun r hr=>hr
  obtain⟨fo2,se2,rfl,q1,q2,q3⟩:=hr
  dsimp only at q1 q2 q3 ⊢
  rw[vZ] at q2 q3 ⊢
  rw[dW]
  grind
 case stop=>
  rintro rec ⟨fo,se,l,rs⟩ ⟨hI,hl,hv⟩
  dsimp only at hI hl hv ⊢
  rw[aC (by grind)]
  have e:Y w.1.1.2.2.1.length=([],[]):=by
   show(uL _ _ _ _ _ (w.1.1.2.2.1.length -w.1.1.2.2.1.length) _).run O=_
   rw[Nat.sub_self];rfl
  rw[e]
  refine⟨_,rfl,fo,se,by rw[fL];rfl,hI,by grind,by grind⟩
 ·obtain⟨fo',se',rfl,h',g1,g2⟩:=hr
  exact⟨_,rfl,fo',se',rfl,h',g1,g2⟩
def AQ(w:bz)(lo:Ze)(r p d:Int):Qy (List In):=uL (LL w lo r) (decide (r=0)) (dM w) p d w.1.1.2.2.1.length 0
theorem SU(hs:SA w.1.1)(hT:FT w.1.1)(hf:w.2.1.length≤60){r:Int}(er:f44 w.1=some r)(hcg:r=0→CG w.1.1 lo)(p d k:Int):
 f16 w p d k=some (((AQ w lo r p d).run (Oa w d k)).1,cW [] ((AQ w lo r p d).run (Oa w d k)).2)∧((AQ w lo r p d).run (Oa w d k)).1.length≤24∧(∀x∈((AQ w lo r p d).run (Oa w d k)).1,x.2.2.2.1.length≤1000)∧(cW [] ((AQ w lo r p d).run (Oa w d k)).2).length≤2200000:=by
 obtain⟨ix,e1,h1⟩:=KB w (by omega) hs.sw.rules d k (decide (r=(0:Int)))
 unfold f16
 rw[er,aM,e1,aM]
 dsimp only
 have hix:=IXo hf p h1
 obtain⟨x,ex,fo,se,rfl,hI,g1,g2⟩:=Xk (L:=LL w lo r) (O:=Oa w d k) (k:=k) (d:=d) (m:=dM w) (WYu hs hT hf p 0 hix) hT.dq p (decide (r=0)) () fun a i a0 a1 i0 i1 hl fo se rs hI=>KM hs hT hf hcg 0 a p h1 d k () (kK _ (SQ p _ a0 a1 (dj _ (cm ..)) i0 i1)) hl fo se rs hI
 have hU:=EI p 0 hT hf
 have hl:=hI.fi.len
 have hr:=hI.fi.rs
 unfold AQ
 grind
section
variable{w:bz} {lo PS:Ze} {U:List Pl} {ix:Ix} {m:DM} {d k:Int} {O:Pl→An} {L:Pl→Qy Rs}
theorem Xl(hw:WY w PS U ix)(hn:w.1.1.2.2.1.length≤6)(p:Int)(b:Bool)(z:Unit){fo0:FM}{se0:SM}{rs0:List Rd}(h0:MI w.1.1 PS U O L fo0 se0 rs0)
 (hk:∀a i:Int,0≤a→a<(w.1.1.2.2.1.length:Int)→0≤i→i<4→uJ b m a p d i=true→∀fo se rs,MI w.1.1 PS U O L fo se rs→W (dO (a,(p,(i,()))) w ix d k b m z fo se rs) (LP w PS U ix m d k O L b z (a,(p,(i,()))) rs)):
 W (ny p w ix d k b m z fo0 se0 rs0) fun r=>∃fo' se',r=(((uL L b m p d w.1.1.2.2.1.length 0).run O).1,w,ix,d,k,b,m,z,fo',se',cW rs0 ((uL L b m p d w.1.1.2.2.1.length 0).run O).2)∧MI w.1.1 PS U O L fo' se' (cW rs0 ((uL L b m p d w.1.1.2.2.1.length 0).run O).2)∧((uL L b m p d w.1.1.2.2.1.length 0).run O).1.length≤24∧∀x∈((uL L b m p d w.1.1.2.2.1.length 0).run O).1,x.2.2.2.1.length≤1000:=by
 have hB:=hB
 let Y:Nat→List In×List Rd:=fun c=>(uL L b m p d (w.1.1.2.2.1.length -c) c).run O
 unfold ny
 refine bL.2 ((W.mono (sE (L:=sQ) rfl (fun c(s:FM×SM×List In×List Rd)(r:cL _ _)=>CT (fun r=>∃fo' se',r=(w,ix,d,k,b,m,z,fo',se',s.2.2.1++(Y c).1,cW s.2.2.2 (Y c).2)∧MI w.1.1 PS U O L fo' se' (cW s.2.2.2 (Y c).2)∧(s.2.2.1++(Y c).1).length≤s.2.2.1.length+4*(6 -c)∧∀x∈s.2.2.1++(Y c).1,x.2.2.2.1.length≤1000) (fun _=>False) r) w.1.1.2.2.1.length (fun c(s:FM×SM×List In×List Rd)=>(p,(w.1.1.2.2.1.length:Int),(c:Int),w,ix,d,k,b,m,z,s.1,s.2.1,s.2.2.1,s.2.2.2)) (fun c s=>MI w.1.1 PS U O L s.1 s.2.1 s.2.2.2∧s.2.2.1.length≤4*c∧∀x∈s.2.2.1,x.2.2.2.1.length≤1000) ?step ?stop _ 0 (fo0,se0,[],rs0) (by omega) (by omega) ⟨h0,dP _,fun x hx=>(by cases hx)⟩) fun r hr=>hr).ct (fun r hr=>?_) fun r hr=>hr.elim)
 case step=>
  rintro rec c ⟨fo,se,l,rs⟩ hc ⟨hI,hl,hv⟩ kk
  dsimp only at hI hl hv ⊢
  have hw2:=nY c (by omega)
  have eY:Y c=(((uK L b m (c:Int) p d (cn m (c:Int)) 0).run O).1++(Y (c+1)).1,((uK L b m (c:Int) p d (cn m (c:Int)) 0).run O).2++(Y (c+1)).2):=by
   show(uL _ _ _ _ _ _ _).run O=_
   rw[show w.1.1.2.2.1.length -c=(w.1.1.2.2.1.length -(c+1))+1 by omega,mE]
  have hn4:cn m (c:Int)≤4:=by unfold cn;grind
  have hit:=Ho (L:=L) (O:=O) (m:=m) (d:=d) (k:=k) hw (c:Int) p (dE c) (by omega) (w.1.1.2.2.1.length:Int) (cn m (c:Int)) hn4 b z (fun i h0 h1=>hk (c:Int) i (dE c) (by omega) h0 h1) hI l (by omega) hv
  rw[cz (by omega),eY]
  refine bL.2 ?_
  have e:aI (U:=Int×Int×Int×Int×Int×bz×Ix×Int×Int×Bool×DM×Unit×FM×SM×List In×List Rd) (if(aP (.int .i64) .bool (c:Int) (aX m))=true then(some (.brk (p,(c:Int),1,(w.1.1.2.2.1.length:Int),(c:Int),w,ix,d,k,b,m,z,fo,se,l,rs))) else(some (.brk (p,(c:Int),4,(w.1.1.2.2.1.length:Int),(c:Int),w,ix,d,k,b,m,z,fo,se,l,rs)))) (fun⟨b,c,a,d,e,f,g,h,i,j,k,l,m,n,o,p⟩=>iL (Int.toNat a+1) (b,c,d,e,a,0,f,g,h,i,j,k,l,m,n,o,p))=iL (Int.toNat ((cn m (c:Int):Nat):Int)+1) (p,(c:Int),(w.1.1.2.2.1.length:Int),(c:Int),((cn m (c:Int):Nat):Int),0,w,ix,d,k,b,m,z,fo,se,l,rs):=by
   unfold cn
   by_cases hm:aP (.int .i64) .bool (c:Int) (aX m)=true
   ·rw[aA hm,aA hm,aG];rfl
   ·rw[aC hm,aC hm,aG];rfl
  rw[e]
  refine hit.ct (fun r hr=>?_) fun r hr=>hr.elim
  obtain⟨fo',se',rfl,h',g1,g2⟩:=hr
  dsimp only
  rw[hw2]
  refine(kk (fo',se',_,_) ⟨h',by grind,g2⟩).ct (fun r hr=>?_) fun r hr=>hr
  obtain⟨fo2,se2,rfl,q1,q2,q3⟩:=hr
  dsimp only at q1 q2 q3 ⊢
  rw[vZ] at q2 q3 ⊢
  rw[dW]
  grind
 case stop=>
  rintro rec ⟨fo,se,l,rs⟩ ⟨hI,hl,hv⟩
  dsimp only at hI hl hv ⊢
  rw[aC (by grind)]
  have e:Y w.1.1.2.2.1.length=([],[]):=by
   show(uL _ _ _ _ _ (w.1.1.2.2.1.length -w.1.1.2.2.1.length) _).run O=_
   rw[Nat.sub_self];rfl
  rw[e]
  refine⟨_,rfl,fo,se,by rw[fL];rfl,hI,by grind,by grind⟩
 ·obtain⟨fo',se',rfl,h',g1,g2⟩:=hr
  exact⟨_,rfl,fo',se',rfl,h',g1,g2⟩
end
def tC(w:bz)(P:Ze):Ze:=P++Cp w 0
def Up(w:bz)(P:Ze):List Pl:=(List.range w.1.1.2.2.1.length).flatMap fun(i:Nat)=>(tC w P).flatMap fun(q:Int)=>(List.range 4).map fun(j:Nat)=>(((i:Int),(q,((j:Int),()))):Pl)
variable{P:Ze}
theorem KN(hP:P.length≤4)(hT:FT w.1.1)(hf:w.2.1.length≤60):(Up w P).length≤2200:=by
 have h1:(tC w P).length≤90:=by
  grind [Hl,tC]
 have h2:∀i:Nat,((tC w P).flatMap fun(q:Int)=>(List.range 4).map fun(j:Nat)=>(((i:Int),(q,((j:Int),()))):Pl)).length≤360:=fun i=>by
  have:=ll (f:=fun(q:Int)=>(List.range 4).map fun(j:Nat)=>(((i:Int),(q,((j:Int),()))):Pl)) (n:=4) (l:=tC w P) fun y _=>by grind
  omega
 have h3:=ll (f:=fun(i:Nat)=>(tC w P).flatMap fun(q:Int)=>(List.range 4).map fun(j:Nat)=>(((i:Int),(q,((j:Int),()))):Pl)) (n:=360) (l:=List.range w.1.1.2.2.1.length) fun i _=>h2 i
 rw[List.length_range] at h3
 have h4:=hT.dq
 unfold Up
 omega
theorem SX{a q i:Int}(a0:0≤a)(a1:a<(w.1.1.2.2.1.length:Int))(hq:q∈tC w P)(i0:0≤i)(i1:i<4):(a,(q,(i,())))∈Up w P:=by
 refine List.mem_flatMap.2 ⟨a.toNat,List.mem_range.2 (by omega),List.mem_flatMap.2 ⟨q,hq,List.mem_map.2 ⟨i.toNat,List.mem_range.2 (by omega),?_⟩⟩⟩<;>grind
theorem IXp(hf:w.2.1.length≤60)(P:Ze){ix:List (Ky×List Fa)}(h:∀key,aP aK (.slice 64 bJ) key ix=iT key w.2.1):IX (tC w P) (some ix):=fun key=>
 ⟨(IXo hf 0 h key).1,fun f hf'=>kK _ ((IXo hf 0 h key).2 f hf')⟩
theorem WXp(hc:CG w.1.1 lo)(hT:FT w.1.1)(hf:w.2.1.length≤60)(hP:P.length≤4)(hix:IX (tC w P) ix):WX w lo (tC w P) (Up w P) ix where
 cg:=hc
 zero:=kK _ (cm ..)
 consts u hu t ht:=kK _ (dj _ (dj _ (kK _ (List.mem_flatMap.2 ⟨u,hu,List.mem_map.2 ⟨t,ht,rfl⟩⟩))))
 pl _ _ _ a0 a1 hq i0 i1:=SX a0 a1 hq i0 i1
 len:=dh (KN hP hT hf) (by decide)
 fl a a0 a1:=dh (hT.fields _ (dc (t:=bF) (l:=w.1.1.2.2.1) a0 a1)) (by decide)
 ix:=hix
theorem WYp(hs:SA w.1.1)(hT:FT w.1.1)(hf:w.2.1.length≤60)(hP:P.length≤4)(hix:IX (tC w P) ix):WY w (tC w P) (Up w P) ix:=
 ⟨hs.sw,dh (KN hP hT hf) (by decide),fun a a0 a1=>dh (hT.fields _ (dc (t:=bF) (l:=w.1.1.2.2.1) a0 a1)) (by decide),hix⟩
theorem KQ(hs:SA w.1.1)(hT:FT w.1.1)(hf:w.2.1.length≤60)(hcg:CG w.1.1 lo)(hP:P.length≤4)(a p:Int){ix:List (Ky×List Fa)}(h:∀key,aP aK (.slice 64 bJ) key ix=iT key w.2.1)(d k:Int)(z:Unit){i:Int}(a0:0≤a)(a1:a<(w.1.1.2.2.1.length:Int))(i0:0≤i)(i1:i<4)(hp:p∈P)(fo:FM)(se:SM)(rs:List Rd)(hI:MI w.1.1 (tC w P) (Up w P) (Oa w d k) (LL w lo 0) fo se rs):
 W (dO (a,(p,(i,()))) w (some ix) d k true (dM w) z fo se rs) (LP w (tC w P) (Up w P) (some ix) (dM w) d k (Oa w d k) (LL w lo 0) true z (a,(p,(i,()))) rs):=by
 have hPp:p∈tC w P:=j4 _ hp
 have hU:(a,(p,(i,())))∈Up w P:=SX a0 a1 hPp i0 i1
 have hix:=IXp hf P h
 have Y:=MYo (WYp hs hT hf hP hix) (by omega) h d k
 have X:=MXo (WXp hcg hT hf hP hix) (by omega) h (dM w) d k
 have e:LL w lo 0=LQ w.1.1 (dM w) lo:=aA rfl
 rw[e] at hI ⊢
 refine CE Y _ z _ hI hU hPp ?_
 by_cases hm:aP (.int .i64) .bool a (aX (dM w))=true
 ·exact CC X _ z _ hI hU hPp
 ·exact CD Y _ z _ (CB hcg.rk.pre _ _) hm hI hU hPp
theorem Xm(hs:SA w.1.1)(hT:FT w.1.1)(hf:w.2.1.length≤60)(hcg:CG w.1.1 lo)(hP:P.length≤4){p:Int}(hp:p∈P){ix:List (Ky×List Fa)}(h:∀key,aP aK (.slice 64 bJ) key ix=iT key w.2.1)(d k:Int){rs:List Rd}(hI:MI w.1.1 (tC w P) (Up w P) (Oa w d k) (LL w lo 0) fo se rs):
 ∃fo' se' rs',ny p w (some ix) d k true (dM w) () fo se rs=some (((AQ w lo 0 p d).run (Oa w d k)).1,w,some ix,d,k,true,dM w,(),fo',se',rs')∧MI w.1.1 (tC w P) (Up w P) (Oa w d k) (LL w lo 0) fo' se' rs':=by
 obtain⟨x,ex,fo',se',rfl,h1,_⟩:=Xl (L:=LL w lo 0) (O:=Oa w d k) (k:=k) (d:=d) (m:=dM w) (WYp hs hT hf hP (IXp hf P h)) hT.dq p true () hI fun a i a0 a1 i0 i1 hl fo se rs hI=>KQ hs hT hf hcg hP a p h d k () a0 a1 i0 i1 hp fo se rs hI
 exact⟨fo',se',_,ex,h1⟩
theorem yH(x y:Ze)(hx:x.length≤aH):f73 x y=some (decide (x=y)):=by
 have hB:=hB
 unfold f73
 by_cases hl:x.length=y.length
 ·rw[aC (by simp[hl])]
  have key:=ua (L:=Ll) rfl x.length (fun i=>(x,y,(x.length:Int),(i:Int))) () (fun i=>nth (.int .i64) x (i:Int)=nth (.int .i64) y (i:Int)) (fun r:Bool=>r=false∧x≠y) (by
   intro rec i hi
   dsimp only
   rw[cz (by omega),dV i,aA (by omega),dV i,aA (by omega),aY (by omega)]
   by_cases he:nth (.int .i64) x (i:Int)=nth (.int .i64) y (i:Int)
   ·grind
   ·rw[aA (by simp[he])]
    exact Or.inr ⟨false,⟨rfl,fun e=>he (by rw[e])⟩,rfl⟩) (by
   grind) (Int.toNat (x.length:Int)+1) (by omega)
  grind [List.ext_getElem,cK,aG,dp]
 ·rw[aA (by grind),du (fun e=>hl (by rw[e]))]
theorem KR{g:Cs}(hs:SA g.1):∃r,f44 g=some r∧(r=0→CG g.1 g.2.1):=by
 obtain⟨⟨r,b⟩,e,hm⟩:=NS g.1 hs
 unfold f44
 rw[e,aM]
 dsimp only
 by_cases h:r=0
 ·subst h
  obtain⟨hb,hc⟩:=hm rfl
  obtain⟨q,hq⟩:=Er b.1 g.1 hs.ss
  have hq2:=yH b.2.1 g.2.1 (dh hc.rk.len (by have:=hc.tg.many;have:=hB;omega))
  unfold f67
  rw[hq]
  by_cases e2:b.2.1=g.2.1
  ·rw[e2] at hc
   rw[cE e2] at hq2
   cases q<;>simp only[aM,hq2]<;>simp
   exact hc
  simp_all
 simp_all
structure VP(P:Ze)(d:Int):Prop where
 inc:P.Pairwise (·<·)
 Cq:∀p∈P,0≤p∧p<4096
 day:0≤d∧d<1024
theorem VP.i7{d:Int}(h:VP P d):P.Nodup:=h.inc.imp fun h=>Int.ne_of_lt h
theorem KT{g:Cs}(hs:SA g.1)(P:Ze)(hP:P.length≤4)(d:Int):∃v,f50 g P d=some v∧(v=true→CG g.1 g.2.1∧f44 g=some 0∧VP P d):=by
 have hB:=hB
 suffices hW:W (f50 g P d) fun v=>v=true→CG g.1 g.2.1∧f44 g=some 0∧VP P d by
  trivial
 unfold f50
 refine bL.2 (pA.2 ?_)
 have h0:∃v2,(if decide ((List.length P:Int)<(1:Int)) then(some true) else(if decide ((64:Int)<(List.length P:Int)) then(some true) else(if decide (d<(0:Int)) then(some true) else(some (decide ((1024:Int)≤d))))))=some v2∧(v2=false→0≤d∧d<1024):=by
  split
  ·grind
  ·split
   ·grind
   ·split<;>grind
 obtain⟨v2,e2,hd⟩:=h0
 rw[e2]
 refine pz.2 ?_
 cases v2 with
 |true=>exact⟨_,rfl,fun h=>(by cases h)⟩
 |
  false=>
  refine⟨_,rfl,?_⟩
  dsimp only
  refine bL.2 (W.ct (bX (L:=Kt) rfl (CT (fun e=>e=g∧VP P d) fun v=>v=false) P.length (fun c(lst:Int)=>(lst,P,(P.length:Int),(c:Int),g)) (fun c lst=>-1≤lst∧(P.take c).Pairwise (·<·)∧∀x∈P.take c,x≤lst∧0≤x∧x<4096) ?step ?stop (Int.toNat (P.length:Int)+1) 0 (-1) (by omega) (by omega) ⟨by omega,List.Pairwise.nil,fun x hx=>(by cases hx)⟩) (fun e he=>?_) fun v hv=>?_)
  case step=>
   rintro rec c lst hc ⟨i1,i2,i3⟩ kk
   dsimp only
   rw[cz (by omega),dV c,aA (by omega),aY (by omega),cK (t:=.int .i64) hc]
   split
   ·rw[aM,aA rfl]
    exact⟨_,rfl,rfl⟩
   ·rename_i h1
    have h1:lst<P[c]:=Int.not_le.1 fun h=>h1 (cE h)
    rw[aM]
    split
    ·exact⟨_,rfl,rfl⟩
    grind [List.take_succ_eq_append_getElem]
  case stop=>
   rintro rec lst ⟨_,i2,i3⟩
   dsimp only
   rw[aC (by grind)]
   rw[List.take_length] at i2 i3
   exact⟨_,rfl,rfl,i2,fun p hp=>(i3 p hp).2,hd rfl⟩
  ·obtain⟨he,hv⟩:=he
   subst he
   obtain⟨r,er,h⟩:=KR hs
   rw[er,aM]
   exact⟨_,rfl,fun h'=>⟨h (tH h'),by grind,hv⟩⟩
  grind
def AL(w:bz)(lo:Ze)(p d k:Int):List In:=((AQ w lo 0 p d).run (Oa w d k)).1
def bH(x:In):Pl:=(x.1,(x.2.1,(x.2.2.1,())))
def sa(m:List (Pl×In))(x:In):List (Pl×In):=aZ aK (bH x) x m
def mapA(w:bz)(lo:Ze)(P:Ze)(d k:Int):List (Pl×In):=P.foldl (fun acc p=>(AL w lo p d k).foldl sa acc) []
structure MG(m:List (Pl×In))(n:Nat):Prop where
 i7:(m.map (·.1)).Nodup
 len:m.length≤n
 yc:∀e∈m,e.2.2.2.2.1.length≤1000
theorem MG.put{m:List (Pl×In)}{n:Nat}(h:MG m n){x:In}(hx:x.2.2.2.1.length≤1000):MG (sa m x) (n+1):=by
 refine⟨cU (kt:=aK) rfl h.i7,dh (dy (kt:=aK)) (by have:=h.len;omega),?_⟩
 have key:∀(m:List (Pl×In)),(∀e∈m,e.2.2.2.2.1.length≤1000)→∀e∈aZ aK (bH x) x m,e.2.2.2.2.1.length≤1000:=by
  intro m
  induction m with
  |
   nil=>
   grind [aZ]
  |
   cons y m ih=>
   grind [aZ]
 exact key m h.yc
theorem MG.fold:∀(l:List In)(m:List (Pl×In))(n:Nat),MG m n→(∀x∈l,x.2.2.2.1.length≤1000)→MG (l.foldl sa m) (n+l.length)
 |[],_,_,h,_=>h
 |
  x::l,m,n,h,hl=>by
  have:=MG.fold l (sa m x) (n+1) (h.put (hl x (cm ..))) fun y hy=>hl y (dj _ hy)
  rw[gP]
  rwa [show n+(l.length+1)=n+1+l.length by omega]
section
variable{w:bz} {lo:Ze} {P:Ze} {d k:Int} {ix:List (Ky×List Fa)}
theorem yI{α β:Type}(f:β→α→β)(b:β)(l:List α)(c:Nat)(hc:c<l.length):(l.take (c+1)).foldl f b=f ((l.take c).foldl f b) l[c]:=by
 rw[List.take_succ_eq_append_getElem hc,List.foldl_append]
 rfl
theorem TU(x0:Int)(x1:Int)(fo:FM)(se:SM)(rs:List Rd)(Q:Ze)(b:Bool)(m:DM)(z:Unit)(l:List In)(hl:l.length≤24)(hv:∀x∈l,x.2.2.2.1.length≤1000)(acc:List (Pl×In)){n:Nat}(hn:n≤1000)(ha:MG acc n):
 sR (Int.toNat (l.length:Int)+1) (Q,x0,x1,l,(l.length:Int),0,w,some ix,d,k,b,m,z,Q,fo,se,acc,rs)=some (.brk (Q,x0,x1,w,some ix,d,k,b,m,z,Q,fo,se,l.foldl sa acc,rs)):=by
 have hB:=hB
 have key:=bX (L:=sR) rfl (fun r=>r= .brk (Q,x0,x1,w,some ix,d,k,b,m,z,Q,fo,se,l.foldl sa acc,rs)) l.length (fun c(s:List (Pl×In))=>(Q,x0,x1,l,(l.length:Int),(c:Int),w,some ix,d,k,b,m,z,Q,fo,se,s,rs)) (fun c s=>s=(l.take c).foldl sa acc∧MG s (n+c)) (by
  intro rec c s hc hs kk
  obtain⟨hs,hg⟩:=hs
  have h1:=hg.len
  dsimp only
  rw[cz (by omega),dV c,aA (by omega),cK (t:=bp) hc,aY (by omega)]
  show W (Option.bind (some (bH l[c])) _) _
  rw[aM,aA (by omega)]
  exact kk _ ⟨by grind [yI,sa],hg.put (hv _ (eT hc))⟩) (by
  intro rec s hs
  obtain⟨hs,_⟩:=hs
  dsimp only
  rw[aC (by grind)]
  refine⟨_,rfl,?_⟩<;>grind) (Int.toNat (l.length:Int)+1) 0 acc (by omega) (by omega) ⟨rfl,ha⟩
 obtain⟨r,e,hr⟩:=key
 grind
theorem vQ{w:bz}(hs:SA w.1.1)(hT:FT w.1.1)(hf:w.2.1.length≤60){lo:Ze}(hcg:CG w.1.1 lo)(er:f44 w.1=some 0)(p d k:Int):(AL w lo p d k).length≤24∧∀x∈AL w lo p d k,x.2.2.2.1.length≤1000:=by
 obtain⟨_,h1,h2,_⟩:=SU hs hT hf er (fun _=>hcg) p d k
 trivial
theorem Ou{w:bz}(hs:SA w.1.1)(hT:FT w.1.1)(hf:w.2.1.length≤60){lo:Ze}(hcg:CG w.1.1 lo)(er:f44 w.1=some 0)(P:Ze)(d k:Int):MG (mapA w lo P d k) (24*P.length):=by
 have key:∀(P:Ze)(acc:List (Pl×In))(n:Nat),MG acc n→MG (P.foldl (fun acc p=>(AL w lo p d k).foldl sa acc) acc) (n+24*P.length):=by
  intro P
  induction P with
  |nil=>grind
  |
   cons p P ih=>
   intro acc n h
   obtain⟨h1,h2⟩:=vQ hs hT hf hcg er p d k
   have h3:=MG.fold (AL w lo p d k) acc n h h2
   have h4:MG ((AL w lo p d k).foldl sa acc) (n+24):=⟨h3.i7,by have:=h3.len;omega,h3.yc⟩
   grind
 have:=key P [] 0 ⟨List.nodup_nil,dP _,fun e he=>(by cases he)⟩
 rwa [eN] at this
theorem KU(hs:SA w.1.1)(hT:FT w.1.1)(hf:w.2.1.length≤60)(hcg:CG w.1.1 lo)(er:f44 w.1=some 0)(hP:P.length≤4)(h:∀key,aP aK (.slice 64 bJ) key ix=iT key w.2.1):
 ∃fo se rs,sS w (some ix) d k true (dM w) () P [] [] []=some (some (mapA w lo P d k),w,some ix,d,k,true,dM w,(),P,fo,se,rs)∧MI w.1.1 (tC w P) (Up w P) (Oa w d k) (LL w lo 0) fo se rs:=by
 have hB:=hB
 suffices hW:W (sS w (some ix) d k true (dM w) () P [] [] []) fun r=>∃fo se rs,r=(some (mapA w lo P d k),w,some ix,d,k,true,dM w,(),P,fo,se,rs)∧MI w.1.1 (tC w P) (Up w P) (Oa w d k) (LL w lo 0) fo se rs by
  obtain⟨r,e,fo,se,rs,rfl,h⟩:=hW
  grind
 unfold sS
 refine bL.2 (W.ct (bX (L:=zL) rfl (CT (fun r=>∃fo se rs,r=(w,some ix,d,k,true,dM w,(),P,fo,se,mapA w lo P d k,rs)∧MI w.1.1 (tC w P) (Up w P) (Oa w d k) (LL w lo 0) fo se rs) fun _=>False) P.length (fun c(s:FM×SM×List (Pl×In)×List Rd)=>(P,(P.length:Int),(c:Int),w,some ix,d,k,true,dM w,(),P,s.1,s.2.1,s.2.2.1,s.2.2.2)) (fun c s=>MI w.1.1 (tC w P) (Up w P) (Oa w d k) (LL w lo 0) s.1 s.2.1 s.2.2.2∧s.2.2.1=mapA w lo (P.take c) d k) ?step ?stop _ 0 ([],[],[],[]) (by omega) (by omega) ⟨MI.nil _ _ _ _ _,rfl⟩) (fun r hr=>?_) fun r hr=>hr.elim)
 case step=>
  rintro rec c ⟨fo,se,acc,rs⟩ hc ⟨hI,ha⟩ kk
  dsimp only at hI ha ⊢
  obtain⟨fo',se',rs',e1,h1⟩:=Xm hs hT hf hcg hP (eT hc) h d k hI
  have hg:=Ou hs hT hf hcg er (P.take c) d k
  rw[←ha] at hg
  have hlc:(P.take c).length≤4:=by grind
  obtain⟨g1,g2⟩:=vQ hs hT hf hcg er P[c] d k
  rw[cz (by omega),dV c,aA (by omega),cK (t:=.int .i64) hc,e1,aM]
  dsimp only
  have e2:=TU (w:=w) (ix:=ix) (d:=d) (k:=k) (P.length:Int) (c:Int) fo' se' rs' P true (dM w) () (AL w lo P[c] d k) g1 g2 acc (n:=24*(P.take c).length) (by omega) hg
  unfold AL at e2
  rw[e2,aG]
  dsimp only
  rw[aY (by omega)]
  simp_all[mapA,yI,AL]
 case stop=>
  rintro rec ⟨fo,se,acc,rs⟩ ⟨hI,ha⟩
  dsimp only at hI ha ⊢
  rw[aC (by grind)]
  rw[List.take_length] at ha
  subst ha
  exact⟨_,rfl,fo,se,rs,rfl,hI⟩
 ·obtain⟨fo,se,rs,rfl,h⟩:=hr
  exact⟨_,rfl,fo,se,rs,rfl,h⟩
theorem Ov{l:Ze}{a b v:Int}(a0:0≤a)(b0:0≤b)(b1:b<(l.length:Int)):nth (.int .i64) (l.set a.toNat v) b=if b=a then v else nth (.int .i64) l b:=by
 have e:b=(b.toNat:Int):=by omega
 rw[e,cK (t:=.int .i64) (by grind),cK (t:=.int .i64) (by omega),List.getElem_set,←e]
 grind
def OV(w:bz)(o:Ze):Prop:=o.length=w.1.1.2.2.1.length∧∀j:Nat,∀h:j<w.1.2.1.length,nth (.int .i64) o w.1.2.1[j]=(j:Int)
theorem KV(hcg:CG w.1.1 w.1.2.1)(x0 x1:Int)(fm:Zb)(d k:Int)(b:Bool)(m:DM)(z:Unit)(fo:FM)(se:SM)(rs:List Rd):
 ∃o,sT (Int.toNat (w.1.2.1.length:Int)+1) (x0,x1,w.1.2.1,(w.1.2.1.length:Int),0,P,List.replicate (Int.toNat (w.1.2.1.length:Int)) (0:Int),w,fm,d,k,b,m,z,fo,se,rs)=some (.brk (x0,x1,P,o,w,fm,d,k,b,m,z,fo,se,rs))∧OV w o:=by
 have hB:=hB
 have hN:w.1.2.1.length≤w.1.1.2.2.1.length:=hcg.rk.len
 have hM:=hcg.tg.many
 have hlen:w.1.2.1.length=w.1.1.2.2.1.length:=by
  refine Nat.le_antisymm hN ?_
  have h1:((List.range w.1.1.2.2.1.length).map fun i:Nat=>(i:Int)).length≤w.1.2.1.length:=by
   refine yE _ _ ?_ fun x hx=>?_
   ·grind [List.nodup_range]
   ·obtain⟨i,hi,rfl⟩:=List.mem_map.1 hx
    exact(hcg.rk.all _).2 ⟨dE i,by grind⟩
  grind
 have key:=bX (L:=sT) rfl (fun r=>∃o,r= .brk (x0,x1,P,o,w,fm,d,k,b,m,z,fo,se,rs)∧OV w o) w.1.2.1.length (fun c(s:Ze)=>(x0,x1,w.1.2.1,(w.1.2.1.length:Int),(c:Int),P,s,w,fm,d,k,b,m,z,fo,se,rs)) (fun c s=>s.length=w.1.2.1.length∧∀j:Nat,j<c→∀h:j<w.1.2.1.length,nth (.int .i64) s w.1.2.1[j]=(j:Int)) (by
  rintro rec c s hc ⟨hs,hj⟩ kk
  dsimp only
  have hm:=(hcg.rk.all _).1 (eT hc)
  have hlt:w.1.2.1[c]<(s.length:Int):=by grind
  rw[cz (by omega),dV c,aA (by omega),cK (t:=.int .i64) hc,aA hm.1,aA hlt,aY (by omega)]
  refine kk _ ⟨by grind,fun j hjc h=>?_⟩
  have hmj:=(hcg.rk.all _).1 (eT h)
  rw[Ov hm.1 hmj.1 (by grind)]
  by_cases e:j=c
  ·grind
  ·rw[aC (fun e2=>List.pairwise_iff_getElem.1 hcg.rk.i7 j c h hc (by omega) e2),hj j (by omega) h]) (by
  rintro rec s ⟨hs,hj⟩
  dsimp only
  rw[aC (by grind)]
  exact⟨_,rfl,s,rfl,by omega,fun j h=>hj j h h⟩) (Int.toNat (w.1.2.1.length:Int)+1) 0 (List.replicate (Int.toNat (w.1.2.1.length:Int)) (0:Int)) (by omega) (by omega) ⟨by grind,fun j h=>absurd h (Nat.not_lt_zero j)⟩
 obtain⟨r,e,o,hr,ho⟩:=key
 grind
theorem pt(hs:SA w.1.1)(hT:FT w.1.1)(hf:w.2.1.length≤60)(hP:P.length≤4)(d b a:Int):
 (∀b a,fb w P d b a=none∧iP w P d b a=some false)∨
 (iP w P d b a=none∧CG w.1.1 w.1.2.1∧f44 w.1=some 0∧∃o ix fo se rs,fb w P d b a=some (true,o,w,some ix,d,a,true,dM w,(),some (mapA w w.1.2.1 P d b),some (mapA w w.1.2.1 P d a),rs,fo,se)∧OV w o∧VP P d∧MI w.1.1 (tC w P) (Up w P) (Oa w d a) (LL w w.1.2.1 0) fo se rs∧∀key,aP aK (.slice 64 bJ) key ix=iT key w.2.1):=by
 have hB:=hB
 obtain⟨v,ev,hv⟩:=KT hs P hP d
 cases v with
 |
  false=>
  refine Or.inl fun b a=>⟨?_,?_⟩
  ·simp_all[fb]
  simp_all[iP]
 |
  true=>
  obtain⟨hcg,er0,hvp⟩:=hv rfl
  refine Or.inr ⟨?_,hcg,er0,?_⟩
  ·simp_all[iP]
  ·obtain⟨ix,e1,h1⟩:=KB w (by omega) hs.sw.rules d a true
   have hM:=hcg.tg.many
   have hl:=hcg.rk.len
   unfold fb
   rw[ev,aM,aC (by decide),dV _,aA (mL _),aA (by omega),e1,aM]
   dsimp only
   obtain⟨o,eo,hov⟩:=KV (P:=P) hcg d b (some ix) d a true (dM w) () [] [] []
   rw[eo,aG]
   dsimp only
   obtain⟨fo1,se1,rs1,ea,_⟩:=KU (d:=d) (k:=b) hs hT hf hcg er0 hP h1
   obtain⟨fo2,se2,rs2,eb,hI2⟩:=KU (d:=d) (k:=a) hs hT hf hcg er0 hP h1
   unfold Ez
   grind
end
theorem vR{s:cu}{R:List Ru}{a p:Int}{O:Pl→An}:∀n c,((eK ch (fun u l=>ja s u p l) R a n c).run O).1.2.2.2.1=true→bH ((eK ch (fun u l=>ja s u p l) R a n c).run O).1.1=(a,(p,((0:Int),())))
 |0,_,h=>by trivial
 |
  n+1,c,h=>by
  unfold eK at h ⊢
  split at h
  ·rename_i hu
   rw[aA hu]
   rw[Qy.run_bind] at h ⊢
   dsimp only at h ⊢
   split at h
   ·rename_i hy
    rw[aA hy]
    show((nth bG R (c:Int)).2.1,(p,((0:Int),())))=_
    rw[hu]
   simp_all[vR]
  simp_all[vR]
theorem Hp{s:cu}{V:Ky→Int×Bool}{a p i d:Int}:∀(n c:Nat)(t:Ze)(rs:List Rd),(ln s V a p i d n c t rs).1=true→bH (ln s V a p i d n c t rs).2.1=(a,(p,(i,())))
 |0,_,_,_,_=>rfl
 |
  n+1,c,t,rs,h=>by
  unfold ln at h ⊢
  split at h
  ·simp_all[Hp]
  grind
section
variable{w:bz} {lo:Ze} {d k:Int}
theorem Xn{q:Pl}(h:(Oa w d k q).1=true):bH (Oa w d k q).2.1=q:=by
 unfold Oa pq at h ⊢
 split at h
 ·simp_all[Hp]
 grind
theorem SY(hcg:CG w.1.1 lo){q:Pl}(hq:aP (.int .i64) .bool q.1 (aX (dM w))=true→q.2.2.1=0)(h:((LL w lo 0 q).run (Oa w d k)).1.2.2.2.1=true):bH ((LL w lo 0 q).run (Oa w d k)).1.1=q:=by
 have e:LL w lo 0=LQ w.1.1 (dM w) lo:=aA rfl
 rw[e,CB hcg.rk.pre] at h ⊢
 unfold jD at h ⊢
 split at h
 ·rename_i hm
  rw[aA hm,vR _ _ h]
  grind
 ·rename_i hm
  rw[aC hm]
  exact Xn h
theorem SZ(hcg:CG w.1.1 lo){a p i:Int}(h:(Fv (Oa w d k) (LL w lo 0) true (dM w) a p d i).1=true):bH (Fv (Oa w d k) (LL w lo 0) true (dM w) a p d i).2=(a,(p,(i,()))):=by
 unfold Fv at h ⊢
 split at h
 ·rename_i hl
  rw[aA hl]
  refine SY hcg (fun hm=>?_) h
  simp_all[uJ]
 grind
theorem Ap(hcg:CG w.1.1 lo){a p:Int}:∀(n c:Nat),∀x∈((uK (LL w lo 0) true (dM w) a p d n c).run (Oa w d k)).1,x.1=a∧x.2.1=p∧(c:Int)≤x.2.2.1∧x.2.2.1<(c:Int)+(n:Int)
 |0,_,x,hx=>by cases hx
 |
  n+1,c,x,hx=>by
  rw[qm] at hx
  dsimp only at hx
  have ih:=Ap hcg (a:=a) (p:=p) n (c+1) x
  split at hx
  ·rename_i h
   rcases List.mem_cons.1 hx with e|hx
   ·have e1:=SZ hcg h
    rw[←e] at e1
    unfold bH at e1
    grind
   grind
  grind
theorem EJ(hcg:CG w.1.1 lo){a p:Int}:∀(n c:Nat),(((uK (LL w lo 0) true (dM w) a p d n c).run (Oa w d k)).1.map bH).Nodup
 |0,_=>List.nodup_nil
 |
  n+1,c=>by
  rw[qm]
  dsimp only
  split
  ·rename_i h
   rw[dA,kM]
   refine⟨fun hm=>?_,EJ hcg n (c+1)⟩
   obtain⟨x,hx,ex⟩:=List.mem_map.1 hm
   obtain⟨_,_,h3,_⟩:=Ap hcg n (c+1) x hx
   rw[SZ hcg h] at ex
   unfold bH at ex
   grind
  ·exact EJ hcg n (c+1)
theorem EK(hcg:CG w.1.1 lo){p:Int}:∀(n a:Nat),∀x∈((uL (LL w lo 0) true (dM w) p d n a).run (Oa w d k)).1,(a:Int)≤x.1∧x.1<(a:Int)+(n:Int)∧x.2.1=p∧0≤x.2.2.1∧x.2.2.1<4
 |0,_,x,hx=>by cases hx
 |
  n+1,a,x,hx=>by
  rw[mE] at hx
  rcases List.mem_append.1 hx with hx|hx
  ·obtain⟨h1,h2,h3,h4⟩:=Ap hcg _ _ x hx
   have hn4:cn (dM w) (a:Int)≤4:=by unfold cn;grind
   grind
  ·obtain⟨h1,h2,h3⟩:=EK hcg n (a+1) x hx
   grind
theorem KW(hcg:CG w.1.1 lo){p:Int}:∀(n a:Nat),(((uL (LL w lo 0) true (dM w) p d n a).run (Oa w d k)).1.map bH).Nodup
 |0,_=>List.nodup_nil
 |
  n+1,a=>by
  rw[mE]
  dsimp only
  rw[gi,j7]
  refine⟨EJ hcg _ _,KW hcg n (a+1),fun q hq r hr e=>?_⟩
  obtain⟨x,hx,ex⟩:=List.mem_map.1 hq
  obtain⟨y,hy,ey⟩:=List.mem_map.1 hr
  have h1:=(Ap hcg _ _ x hx).1
  have h2:=(EK hcg n (a+1) y hy).1
  rw[←ex,←ey] at e
  unfold bH at e
  grind
theorem S0(hcg:CG w.1.1 lo){p:Int}:∀x∈AL w lo p d k,0≤x.1∧x.1<(w.1.1.2.2.1.length:Int)∧x.2.1=p∧0≤x.2.2.1∧x.2.2.1<4:=fun x hx=>by
 obtain⟨h1,h2,h3⟩:=EK hcg w.1.1.2.2.1.length 0 x hx
 grind
theorem Xo(hcg:CG w.1.1 lo){p:Int}:((AL w lo p d k).map bH).Nodup:=KW hcg w.1.1.2.2.1.length 0
def CL(w:bz)(lo P:Ze)(d k:Int):List In:=P.flatMap fun p=>AL w lo p d k
theorem CP(hcg:CG w.1.1 lo){P:Ze}:∀x∈CL w lo P d k,0≤x.1∧x.1<(w.1.1.2.2.1.length:Int)∧x.2.1∈P∧0≤x.2.2.1∧x.2.2.1<4:=fun x hx=>by
 obtain⟨p,hp,hx⟩:=List.mem_flatMap.1 hx
 obtain⟨h1,h2,h3,h4⟩:=S0 hcg x hx
 grind
theorem KX(hcg:CG w.1.1 lo):∀{P:Ze},P.Nodup→((CL w lo P d k).map bH).Nodup
 |[],_=>List.nodup_nil
 |
  p::P,h=>by
  obtain⟨h1,h2⟩:=List.nodup_cons.1 h
  show((AL w lo p d k++CL w lo P d k).map bH).Nodup
  rw[gi,j7]
  refine⟨Xo hcg,KX hcg h2,fun q hq r hr e=>?_⟩
  obtain⟨x,hx,ex⟩:=List.mem_map.1 hq
  obtain⟨y,hy,ey⟩:=List.mem_map.1 hr
  have g1:=(S0 hcg x hx).2.2.1
  have g2:=(CP hcg y hy).2.2.1
  rw[←ex,←ey] at e
  unfold bH at e
  simp only[iv,and_true] at e
  rw[←e.2.1,g1] at g2
  exact h1 g2
abbrev pr(x:In):Pl×In:=(bH x,x)
theorem CS:∀(l:List In)(acc:List (Pl×In)),(acc.map (·.1)++l.map bH).Nodup→l.foldl sa acc=acc++l.map pr
 |[],acc,_=>by rw[List.foldl_nil,List.map_nil,fL]
 |
  x::l,acc,h=>by
  have h1:bH x∉acc.map (·.1):=fun hm=>(List.nodup_append.1 h).2.2 _ hm _ (cm ..) rfl
  have e:sa acc x=acc++[pr x]:=gw (kt:=aK) rfl h1
  rw[List.foldl_cons,e,CS l _ (by rw[gi,vZ];exact h),vZ]
  rfl
theorem nP(hcg:CG w.1.1 lo){P:Ze}(hP:P.Nodup):mapA w lo P d k=(CL w lo P d k).map pr:=by
 have e:mapA w lo P d k=(CL w lo P d k).foldl sa []:=by
  unfold mapA CL
  rw[List.foldl_flatMap]
 grind [CS,KX]
end
theorem Hq{k:Pl}{x:In}:∀{m:List (Pl×In)},(m.map (·.1)).Nodup→(k,x)∈m→aP aK bp k m=x∧bT aK k m=true
 |[],_,h=>by cases h
 |
  e::m,hn,h=>by
  simp only[dA,kM] at hn
  rcases List.mem_cons.1 h with h|h
  ·subst h
   simp_all[cM,aP,bT]
  ·obtain⟨h1,h2⟩:=Hq hn.2 h
   have e1:¬bl aK k e.1=true:=fun hh=>hn.1 (by
    simp_all[cM])
   simp_all[aP,bT]
theorem nQ{A R:Type}{q:DecidableEq R}{xs:List A}{K:A→List A→Option R}{r:R}(hne:xs≠[])(h:∀i(hi:i<xs.length),K xs[i] (xs.eraseIdx i)=some r):wM xs K=some r:=by
 match xs,hne,h with
 |
  x::l,_,h=>
  have h0:K x l=some r:=h 0 (by simp)
  simp only[wM,h0]
  grind
theorem vS{A R:Type}{q:DecidableEq R}:∀{n:Nat}{xs:List A}{K:List A→Option R}{r:R},xs.length≤n→(∀ys:List A,ys.Perm xs→K ys=some r)→wN n xs K=some r
 |0,[],_,_,_,h=>h [] (List.Perm.refl _)
 |_+1,[],_,_,_,h=>h [] (List.Perm.refl _)
 |0,_::_,_,_,hl,_=>by grind
 |
  n+1,x::l,K,r,hl,h=>by
  unfold wN
  refine nQ (by simp) fun i hi=>?_
  refine vS (by rw[List.length_eraseIdx_of_lt hi];simp at hl hi ⊢;omega) fun ys hy=>?_
  exact h _ ((hy.cons _).trans (gQ (x::l) i hi).symm)
def mF(a b:Int):Int:=if a<b then-1 else if b<a then 1 else 0
theorem nR(a b:Int):f30 a b=some (mF a b):=by
 have e:∀x,f57 x=some false:=fun x=>by
  simp_all[f57]
 unfold f30 mF
 grind
theorem or3(x y z:Int):f29 [x,y,z]=some (if x≠0 then x else if y≠0 then y else z):=by
 have st:∀(n:Nat)(i:Nat)(hi:i<3),pn (n+1) ((0:Int),[x,y,z],3,(i:Int))=if[x,y,z][i]≠0 then some (.ret [x,y,z][i]) else pn n ((0:Int),[x,y,z],3,((i+1:Nat):Int)):=by
  intro n i hi
  unfold pn
  rw[aN]
  generalize aL _ n=rec
  dsimp only
  rw[cz (by omega),dV i,aA (show(i:Int)<(List.length [x,y,z]:Int) by grind),cK (t:=.int .i64) hi,aY (by omega)]
  by_cases h:[x,y,z][i]=0
  ·grind
  ·rw[aA (by grind),aA h];rfl
 have e0:=st 3 0 (by omega)
 have e1:=st 2 1 (by omega)
 have e2:=st 1 2 (by omega)
 have e3:pn 1 ((0:Int),[x,y,z],3,((3:Nat):Int))=some (.brk 0):=rfl
 grind [f29,aG,dp]
def sf(a b:Pl):Int:=if mF a.1 b.1≠0 then mF a.1 b.1 else if mF a.2.1 b.2.1≠0 then mF a.2.1 b.2.1 else mF a.2.2.1 b.2.2.1
theorem Hr(a b:Pl):f41 a b=some (sf a b):=by
 unfold f41
 rw[nR,aM,nR,aM,nR,aM,or3]
 rfl
theorem nT(a b:Pl):sf a b<0↔a.1<b.1∨a.1=b.1∧(a.2.1<b.2.1∨a.2.1=b.2.1∧a.2.2.1<b.2.2.1):=by
 grind [sf,mF]
theorem TV{a b:Pl}(h1:a.1=b.1)(h2:a.2.1=b.2.1)(h3:a.2.2.1=b.2.2.1):a=b:=by
 grind
theorem Ht{a b:Pl}(h:a≠b):sf a b<0∨sf b a<0:=by
 rw[nT,nT]
 grind
theorem vT(a:Pl):¬sf a a<0:=by rw[nT];omega
theorem Hu(a b c:Pl):sf a b<0→sf b c<0→sf a c<0:=by rw[nT,nT,nT];omega
theorem KY{x y:In}(h:bH x=bH y)(hv:x.2.2.2.1=y.2.2.2.1):x=y:=by
 obtain⟨a1,a2,a3,a4,_⟩:=x
 simp_all[bH]
variable{B:List In}
theorem S1(hB:(B.map bH).Nodup):∀{x y:In},x∈B→y∈B→bH x=bH y→x=y:=by
 induction B with
 |nil=>grind
 |
  cons b B ih=>
  grind
theorem KZ(hB:(B.map bH).Nodup):B.Nodup:=by
 have h:B.Pairwise fun x y=>bH x≠bH y:=List.pairwise_map.1 hB
 exact h.imp fun h e=>h (congrArg bH e)
theorem TW(B:List In):(B.map pr).map (·.1)=B.map bH:=by simp_all
theorem Aq(hB:(B.map bH).Nodup){x:In}(hx:x∈B):aP aK bp (bH x) (B.map pr)=x:=
 (Hq (m:=B.map pr) (by grind) (List.mem_map.2 ⟨x,hx,rfl⟩)).1
structure CO(B:List In):Prop where
 nd:(B.map bH).Nodup
 len:B.length≤100
 yc:∀x∈B,x.2.2.2.1.length≤1000
theorem Xp(hB:CO B){x:In}(hx:x.2.2.2.1.length≤1000):
 (if !(bT aK (bH x) (aX (some (B.map pr)))) then(some true) else((f73 x.2.2.2.1 (((((aP aK bp (bH x) (aX (some (B.map pr)))).2).2).2).1)).bind fun y6=>some (!y6)))=some (!decide (x∈B)):=by
 have hM:=hB.len
 have hMB:aH=140737488355328:=rfl
 by_cases hm:bH x∈B.map bH
 ·obtain⟨y,hy,ey⟩:=List.mem_map.1 hm
  have h1:bT aK (bH x) (aX (some (B.map pr)))=true:=(di (kt:=aK) rfl).2 (by
   show bH x∈(B.map pr).map (·.1)
   grind)
  have h2:aP aK bp (bH x) (aX (some (B.map pr)))=y:=by rw[←ey];exact Aq hB.nd hy
  rw[h1,h2,aC (by decide),yH _ _ (by omega),aM]
  refine congrArg (fun b=>some (!b)) (decide_eq_decide.2 ⟨fun h=>?_,fun h=>?_⟩)
  ·rw[KY ey.symm h];exact hy
  ·rw[S1 hB.nd h hy ey.symm]
 ·have h1:¬bT aK (bH x) (aX (some (B.map pr)))=true:=fun h=>hm (by
   have:=(di (kt:=aK) rfl).1 h
   rw[←TW];trivial)
  grind
def jE(A B:List In):List In:=A.filter fun x=> !decide (x∈B)
variable{A:List In}
theorem fD{x:In}:x∈jE A B↔x∈A∧x∉B:=by simp[jE,List.mem_filter]
theorem CO.jE(h:CO A)(B:List In):CO (jE A B):=
 ⟨(List.filter_sublist.map bH).nodup h.nd,dh (yO ..) h.len,fun x hx=>h.yc x (fD.1 hx).1⟩
theorem CO.perm(h:CO A)(hp:B.Perm A):CO B:=
 ⟨(hp.map bH).nodup_iff.2 h.nd,by rw[hp.length_eq];exact h.len,fun x hx=>h.yc x (hp.mem_iff.1 hx)⟩
theorem Ar(h:(A.map bH).Nodup):∃ys,ys.Perm A∧∀zs,zs.Perm A→A7 zs=some ys:=by
 refine zb (f:=fun x y=>sf (bH x) (bH y)) (fun x y=>?_) (fun x=>vT _) (fun x y z=>Hu _ _ _) ?_
 ·simp_all[f75,f52,bH,Hr]
 ·exact(List.pairwise_map.1 h).imp fun h=>Ht h
theorem gH(hA:CO A)(hB:CO B):∃Z,D5 (some (A.map pr)) (some (B.map pr))=some Z∧Z.Perm (jE A B):=by
 have hMB:aH=140737488355328:=rfl
 obtain⟨Z,hZ,hs⟩:=Ar (hA.jE B).nd
 refine⟨Z,?_,hZ⟩
 have hl:=(hA.jE B).len
 have key:∀(n:Nat)(es:List (Pl×In))(b:List In),es.length<n→(∀e∈es,e.1=bH e.2∧e.2.2.2.2.1.length≤1000)→(b++jE (es.map (·.2)) B).Perm (jE A B)→vf n (some (B.map pr),es,b)=some Z:=by
  intro n
  induction n with
  |zero=>grind
  |
   succ n ih=>
   intro es b hn hes hp
   unfold vf at ih ⊢
   rw[aN]
   generalize aL _ n=rec at ih ⊢
   dsimp only
   cases es with
   |
    nil=>
    simp_all[jE]
   |
    cons e0 l0=>
    rw[aC (by simp)]
    refine nQ (by simp) fun i hi=>?_
    obtain⟨he,hv⟩:=hes _ (eT hi)
    have hl2:((e0::l0).eraseIdx i).length<n:=by
     grind
    have am0:∀e∈(e0::l0).eraseIdx i,e.1=bH e.2∧e.2.2.2.2.1.length≤1000:=fun e h'=>hes e (List.mem_of_mem_eraseIdx h')
    have hpk:((e0::l0).map (·.2)).Perm ((e0::l0)[i].2::((e0::l0).eraseIdx i).map (·.2)):=(gQ (e0::l0) i hi).map (·.2)
    have hf:=(hpk.filter (fun x=> !decide (x∈B))).append_left b
    generalize (e0::l0)[i]=e at he hv hf
    generalize (e0::l0).eraseIdx i=l at hl2 am0 hf
    obtain⟨k,x⟩:=e
    dsimp only at he hv
    subst he
    have q1:=Xp hB hv
    dsimp only
    rw[q1,aM]
    by_cases hx:x∈B
    ·rw[cE hx,aC (by decide)]
     refine ih l b hl2 am0 (List.Perm.trans ?_ hp)
     refine List.Perm.trans ?_ hf.symm
     rw[wa,cE hx]
     trivial
    ·rw[du hx,aA (by decide)]
     have hq:((b++[x])++jE (l.map (·.2)) B).Perm (jE A B):=by
      refine List.Perm.trans ?_ hp
      refine List.Perm.trans ?_ hf.symm
      rw[wa,du hx,vZ]
      trivial
     have hql:=hq.length_eq
     grind
 refine key _ (A.map pr) [] (by simp[aX]) (fun e he=>?_) ?_
 ·obtain⟨x,hx,rfl⟩:=List.mem_map.1 he
  exact⟨rfl,hA.yc x hx⟩
 ·have e:(A.map pr).map (·.2)=A:=by rw[iw];exact List.map_id' A
  grind
abbrev Sp:=Ve
abbrev Ik:=W5
def kS(k:Int)(f:Bool)(x:In):Sp×Ik:=((k,bH x),(bH x,(f,())))
def sh(ST FR:List In):List (Sp×Ik):=ST.map (kS 2 false)++FR.map (kS 1 true)
theorem As(ST FR:List In):(sh ST FR).map (·.1)=(ST.map bH).map (fun p=>(((2:Int),p):Sp))++(FR.map bH).map fun p=>(((1:Int),p):Sp):=by
 unfold sh
 rw[gi,iw,iw,iw,iw]
 rfl
theorem lq{k:Int}{l:List Pl}(h:l.Nodup):(l.map fun p=>((k,p):Sp)).Nodup:=List.Pairwise.map _ (fun _ _ hab e=>hab (Prod.mk.inj e).2) h
variable{FR:List In}
theorem K0{ST:List In}(hS:CO ST)(hF:CO FR):((sh ST FR).map (·.1)).Nodup:=by
 rw[As,j7]
 refine⟨lq hS.nd,lq hF.nd,fun a ha b hb e=>?_⟩<;>grind
def Kn(ST FR:List In)(s:Sp):Prop:=s.1=2∧s.2∈ST.map bH∨s.1=1∧s.2∈FR.map bH
theorem Hv{ST:List In}(s:Sp):bT bD s (sh ST FR)=true↔Kn ST FR s:=by
 rw[di (kt:=bD) rfl,As,jb,qt,qt]
 constructor
 ·rintro(⟨p,hp,rfl⟩|⟨p,hp,rfl⟩)
  ·exact Or.inl ⟨rfl,hp⟩
  ·exact Or.inr ⟨rfl,hp⟩
 ·rintro(⟨h1,h2⟩|⟨h1,h2⟩)<;>grind
theorem CU{vt:Ty}(hk:kt.keyed=true){k:kt.den}{v:vt.den}:∀{m:List (kt.den×vt.den)},(m.map (·.1)).Nodup→(k,v)∈m→aP kt vt k m=v
 |[],_,h=>by cases h
 |
  e::m,hn,h=>by
  simp only[dA,kM] at hn
  have eq:∀x y,bl kt x y=true↔x=y:=cM kt
  rcases List.mem_cons.1 h with h|h
  ·subst h
   simp_all[aP]
  ·have e1:¬bl kt k e.1=true:=fun hh=>hn.1 (by
    grind)
   simp only[aP,e1]
   exact CU hk hn.2 h
theorem Ox{ST:List In}(hS:CO ST)(hF:CO FR){s:Sp}(h:Kn ST FR s):aP bD dJ s (sh ST FR)=(s.2,(decide (s.1=1),())):=by
 refine CU rfl (K0 hS hF) ?_
 unfold sh
 rcases h with⟨h1,h2⟩|⟨h1,h2⟩
 ·obtain⟨x,hx,ex⟩:=List.mem_map.1 h2
  refine j4 _ (List.mem_map.2 ⟨x,hx,?_⟩)
  unfold kS
  rw[ex,h1]
  grind
 ·obtain⟨x,hx,ex⟩:=List.mem_map.1 h2
  refine kK _ (List.mem_map.2 ⟨x,hx,?_⟩)
  unfold kS
  grind
theorem st3{R:Type}{L:Nat→(List In)×(List In)×Int×Int×(List (Sp×Ik))→Option (cL ((List In)×(List (Sp×Ik))) R)}(hL:L=aL fun amC ⟨e,c,b,a,d⟩=>if decide (a<b) then(if 0≤a then(if a<(c.length:Int) then((f24 (2:Int) (nth bp c a)).bind fun y4=>(f52 (nth bp c a)).bind fun y5=>if d.length+1≤aH then(amC (e,c,b,bq (a+(1:Int)),aZ bD y4 (y5,(false,())) d)) else none) else none) else none) else(some (.brk (e,d)))){ST:List In}(hS:CO ST)(n:Nat)(hn:ST.length<n):
 L n (FR,ST,(ST.length:Int),0,[])=some (.brk (FR,ST.map (kS 2 false))):=by
 have hM:aH=140737488355328:=rfl
 have hl:=hS.len
 obtain⟨r,e,hr⟩:=bX hL (fun r=>r= .brk (FR,ST.map (kS 2 false))) ST.length (fun c(s:List (Sp×Ik))=>(FR,ST,(ST.length:Int),(c:Int),s)) (fun c s=>s=(ST.take c).map (kS 2 false)) (by
  intro rec c s hc hs kk
  have hsl:s.length≤1000:=by grind
  dsimp only
  rw[cz (by omega),dV c,aA (by omega),cK (t:=bp) hc,aY (by omega)]
  show W (Option.bind (some ((2:Int),bH ST[c])) fun y4=>Option.bind (some (bH ST[c])) fun y5=>_) _
  rw[aM,aM,aA (by omega)]
  refine kk _ ?_
  rw[gw (kt:=bD) rfl,hs,List.take_succ_eq_append_getElem hc,gi]
  ·rfl
  ·intro hm
   rw[hs,iw] at hm
   obtain⟨x,hx,ex⟩:=List.mem_map.1 hm
   have h1:=hS.nd
   have h2:(ST.take (c+1)).map bH=(ST.take c).map bH++[bH ST[c]]:=by rw[List.take_succ_eq_append_getElem hc,gi];rfl
   have h3:((ST.take (c+1)).map bH).Nodup:=((List.take_sublist (c+1) ST).map bH).nodup h1
   rw[h2,j7] at h3
   exact h3.2.2 _ (List.mem_map.2 ⟨x,hx,rfl⟩) _ (List.mem_singleton.2 rfl) (Prod.mk.inj ex).2) (by
  intro rec s hs
  dsimp only
  rw[aC (by grind)]
  refine⟨_,rfl,?_⟩<;>grind) n 0 [] (by omega) (by omega) rfl
 grind
theorem st8{R:Type}{L:Nat→(List In)×Int×Int×(List (Sp×Ik))→Option (cL (List (Sp×Ik)) R)}(hL:L=aL fun rec8 ⟨c,b,a,d⟩=>if decide (a<b) then(if 0≤a then(if a<(c.length:Int) then((f24 (1:Int) (nth bp c a)).bind fun y9=>(f52 (nth bp c a)).bind fun y10=>if d.length+1≤aH then(rec8 (c,b,bq (a+(1:Int)),aZ bD y9 (y10,(true,())) d)) else none) else none) else none) else(some (.brk d))){ST:List In}(hS:CO ST)(hF:CO FR)(n:Nat)(hn:FR.length<n):
 L n (FR,(FR.length:Int),0,ST.map (kS 2 false))=some (.brk (sh ST FR)):=by
 have hM:aH=140737488355328:=rfl
 have hl:=hS.len
 have hl2:=hF.len
 obtain⟨r,e,hr⟩:=bX hL (fun r=>r= .brk (sh ST FR)) FR.length (fun c(s:List (Sp×Ik))=>(FR,(FR.length:Int),(c:Int),s)) (fun c s=>s=sh ST (FR.take c)) (by
  intro rec c s hc hs kk
  have hsl:s.length≤2000:=by grind [sh]
  dsimp only
  rw[cz (by omega),dV c,aA (by omega),cK (t:=bp) hc,aY (by omega)]
  show W (Option.bind (some ((1:Int),bH FR[c])) fun y4=>Option.bind (some (bH FR[c])) fun y5=>_) _
  rw[aM,aM,aA (by omega)]
  refine kk _ ?_
  have hnd:((sh ST (FR.take (c+1))).map (·.1)).Nodup:=K0 hS ⟨((List.take_sublist _ _).map bH).nodup hF.nd,by grind,fun x hx=>hF.yc x (List.mem_of_mem_take hx)⟩
  have hk:sh ST (FR.take (c+1))=sh ST (FR.take c)++[kS 1 true FR[c]]:=by
   grind [sh,List.take_succ_eq_append_getElem]
  rw[hk,gi,j7] at hnd
  rw[gw (kt:=bD) rfl,hs,hk]
  ·rfl
  ·intro hm
   rw[hs] at hm
   exact hnd.2.2 _ hm _ (List.mem_singleton.2 rfl) rfl) (by
  intro rec s hs
  dsimp only
  rw[aC (by grind)]
  refine⟨_,rfl,?_⟩<;>grind) n 0 (ST.map (kS 2 false)) (by omega) (by omega) (by unfold sh;simp)
 grind
theorem K2{ST:List In}(hS:CO ST)(hF:CO FR):f58 ST FR=some (some (sh ST FR)):=by
 unfold f58
 rw[st3 (L:=Nz) rfl hS _ (by omega),aG]
 dsimp only
 rw[st8 (L:=NA) rfl hS hF _ (by omega),aG]
structure FZ(z:List (Ik×Bool))(M:Ik→Prop):Prop where
 nd:(z.map (·.1)).Nodup
 mem:∀k,k∈z.map (·.1)↔M k
theorem Jl(hk:kt.keyed=true){k p:kt.den}{v:α}{z:List (kt.den×α)}:p∈(aZ kt k v z).map (·.1)↔p=k∨p∈z.map (·.1):=by
 rw[←di hk,←di hk]
 by_cases h:p=k
 ·simp_all[fP]
 grind [lH]
theorem sj(hk:kt.keyed=true){k p:kt.den}:∀{z:List (kt.den×α)},(z.map (·.1)).Nodup→(p∈(iZ kt k z).map (·.1)↔p≠k∧p∈z.map (·.1))
 |[],_=>by simp[iZ]
 |
  e::z,hn=>by
  simp only[dA,kM] at hn
  by_cases h:k=e.1
  ·have e1:bl kt k e.1=true:=(cM kt _ _).2 h
   simp only[iZ,e1,cj,dA,fg]
   grind
  ·have e1:¬bl kt k e.1=true:=fun hh=>h ((cM kt _ _).1 hh)
   simp only[iZ,e1,dA,fg]
   have ih:=sj hk (k:=k) (p:=p) hn.2
   grind
def MP(O ST FR:List In)(l:List Sp)(k:Ik):Prop:=if k.2.1=true then((1:Int),k.1)∈l∧k.1∈FR.map bH else k.1∈O.map bH∧¬(((2:Int),k.1)∈l∧k.1∈ST.map bH)
def tD(ST:List In)(l:List Sp)(x:In):Bool:= !(decide (((2:Int),bH x)∈l)&&decide (bH x∈ST.map bH))
theorem sk{ST:List In}{l:List Sp}{x:In}:tD ST l x=true↔¬(((2:Int),bH x)∈l∧bH x∈ST.map bH):=by
 unfold tD
 grind
def VK(O ST FR:List In)(l:List Sp):List Ik:=((O.filter (tD ST l)).map fun x=>((bH x,(false,())):Ik))++(FR.filter fun x=>decide (((1:Int),bH x)∈l)).map fun x=>(bH x,(true,()))
variable{O:List In}
theorem K3{ST:List In}{l:List Sp}(k:Ik):k∈VK O ST FR l↔MP O ST FR l k:=by
 obtain⟨p,f,_⟩:=k
 unfold VK MP
 rw[jb,qt,qt]
 cases f with
 |
  true=>
  grind
 |
  false=>
  rw[aC (by simp)]
  constructor
  ·rintro(⟨x,hx,e⟩|⟨x,_,e⟩)
   ·have e:=(Prod.mk.inj e).1
    rw[List.mem_filter] at hx
    dsimp only
    rw[←e]
    exact⟨List.mem_map.2 ⟨x,hx.1,rfl⟩,sk.1 hx.2⟩
   grind
  grind [sk]
theorem S2{f:Bool}(h:(A.map bH).Nodup):(A.map fun x=>((bH x,(f,())):Ik)).Nodup:=
 List.Pairwise.map _ (fun _ _ hab e=>hab (Prod.mk.inj e).1) (List.pairwise_map.1 h)
theorem Hw{ST:List In}(hO:CO O)(hF:CO FR)(l:List Sp):(VK O ST FR l).Nodup:=by
 unfold VK
 rw[j7]
 refine⟨S2 ((List.filter_sublist.map bH).nodup hO.nd),S2 ((List.filter_sublist.map bH).nodup hF.nd),fun a ha b hb e=>?_⟩<;>grind
theorem EL{ST:List In}(hO:CO O)(hF:CO FR)(l:List Sp):(VK O ST FR l).length≤2000:=by
 have h1:=yO (tD ST l) O
 have h2:=yO (fun x=>decide (((1:Int),bH x)∈l)) FR
 have:=hO.len
 have:=hF.len
 grind [VK]
theorem FZ.perm{ST:List In}(hO:CO O)(hF:CO FR){z:List (Ik×Bool)}{l:List Sp}(h:FZ z (MP O ST FR l)):(z.map (·.1)).Perm (VK O ST FR l):=
 (List.perm_ext_iff_of_nodup h.nd (Hw hO hF l)).2 fun k=>by rw[h.mem,K3]
theorem FZ.len{ST:List In}(hO:CO O)(hF:CO FR){z:List (Ik×Bool)}{l:List Sp}(h:FZ z (MP O ST FR l)):z.length≤2000:=by
 have:=(h.perm hO hF).length_eq
 grind [EL]
theorem qn{s:Sp}{k:Int}{p:Pl}{l:List Sp}:((k,p):Sp)∈l++[s]↔((k,p):Sp)∈l∨(s.1=k∧s.2=p):=by
 grind
section
variable{O ST FR:List In} {z:List (Ik×Bool)} {l:List Sp} {s:Sp}
theorem FZ.Xq(h:FZ z (MP O ST FR l))(h1:s.1=1)(h2:s.2∈FR.map bH):FZ (aZ dJ (s.2,(true,())) true z) (MP O ST FR (l++[s])):=by
 refine⟨cU (kt:=dJ) rfl h.nd,fun k=>?_⟩
 rw[Jl (kt:=dJ) rfl,h.mem]
 obtain⟨p,f,_⟩:=k
 unfold MP
 grind
theorem FZ.Jm(h:FZ z (MP O ST FR l))(h1:s.1=2)(h2:s.2∈ST.map bH):FZ (iZ dJ (s.2,(false,())) z) (MP O ST FR (l++[s])):=by
 refine⟨((nC (kt:=dJ)).map _).nodup h.nd,fun k=>?_⟩
 rw[sj (kt:=dJ) rfl h.nd,h.mem]
 obtain⟨p,f,_⟩:=k
 unfold MP
 grind
theorem FZ.other(h:FZ z (MP O ST FR l))(hs:¬Kn ST FR s):FZ z (MP O ST FR (l++[s])):=by
 refine⟨h.nd,fun k=>?_⟩
 rw[h.mem]
 obtain⟨p,f,_⟩:=k
 unfold MP
 rw[qn,qn]
 cases f with
 |
  true=>
  simp only[cj]
  refine⟨fun h3=>⟨Or.inl h3.1,h3.2⟩,fun h3=>⟨h3.1.resolve_right fun h4=>hs (Or.inr ⟨h4.1,by rw[h4.2];exact h3.2⟩),h3.2⟩⟩<;>grind
 |
  false=>
  simp only[aC (show¬(false=true) by decide)]
  refine⟨fun h3=>⟨h3.1,fun h4=>h3.2 ⟨h4.1.resolve_right fun h5=>hs (Or.inl ⟨h5.1,by rw[h5.2];exact h4.2⟩),h4.2⟩⟩,fun h3=>⟨h3.1,fun h4=>h3.2 ⟨Or.inl h4.1,h4.2⟩⟩⟩<;>grind
end
def sl(l:List Ik):List Ik:=uz (gz dJ) l
theorem uM{l m:List Ik}(h:l.Perm m):sl l=sl m:=by
 obtain⟨h1,h2,h3⟩:=xl (t:=dJ) rfl
 exact PZ h1 h3 h fun x _ y _=>h2 x y
theorem Hx{l:List Ik}:(sl l).Perm l:=sO
theorem Oy:∀(n:Nat)(es:List (Ik×Bool))(c0:List Ik),es.length<n→c0.length+es.length≤4000→fS n (es,sl c0)=some (.brk (sl (c0++es.map (·.1)))):=by
 have hM:aH=140737488355328:=rfl
 intro n
 induction n with
 |zero=>grind
 |
  succ n ih=>
  intro es c0 hn hl
  unfold fS at ih ⊢
  rw[aN]
  generalize aL _ n=rec at ih ⊢
  dsimp only
  cases es with
  |
   nil=>
   grind
  |
   cons e0 l0=>
   rw[aC (by simp)]
   refine nQ (by simp) fun i hi=>vS (dP _) fun q hq=>?_
   have hl2:((e0::l0).eraseIdx i).length=l0.length:=by grind
   have hpk:=(gQ (e0::l0) i hi).map (·.1)
   rw[gP] at hl hn
   generalize (e0::l0)[i]=e at hpk
   generalize (e0::l0).eraseIdx i=m at hl2 hpk
   have hq2:=hq.trans Hx
   have hql:=hq2.length_eq
   have e1:uz (gz dJ) (q++[e.1])=sl (c0++[e.1]):=uM (hq2.append_right _)
   rw[e1,aA (by grind),ih m (c0++[e.1]) (by omega) (by grind)]
   refine congrArg (fun x=>some (cL.brk x)) (uM ?_)<;>grind
theorem Hy{l:List Sp}{n:Nat}(h:n<l.length)(z:List (Ik×Bool))(last:List Ik):rV l (n:Int) (some z) last=some last:=by
 simp_all[rV]
theorem K4{l:List Sp}(z:List (Ik×Bool))(hz:z.length≤2000):rV l (l.length:Int) (some z) []=some (sl (z.map (·.1))):=by
 unfold rV
 rw[aC (by grind)]
 have e:=Oy (z.length+1) z [] (by omega) (by grind)
 have e:fS (List.length (aX (some z))+1) (aX (some z),[])=_:=e
 grind
section
variable{O ST FR:List In}
theorem Jn(hO:CO O)(hS:CO ST)(hF:CO FR){l:List Sp}(hl:l.length≤1000):∀(n i:Nat)(z:List (Ik×Bool)),l.length -i<n→i≤l.length→FZ z (MP O ST FR (l.take i))→
 Sy l (some (sh ST FR)) n (i:Int) z (if i=l.length then sl (VK O ST FR l) else[])=some (sl (VK O ST FR l)):=by
 have hM:aH=140737488355328:=rfl
 intro n
 induction n with
 |zero=>grind
 |
  succ n ih=>
  intro i z hn hi hz
  unfold Sy
  by_cases h:i<l.length
  ·have hw:=nY i (by omega)
   have hzl:=hz.len hO hF
   have et:l.take (i+1)=l.take i++[l[i]]:=List.take_succ_eq_append_getElem h
   rw[cz (by omega),dV i,aA (by omega),cK (t:=bD) h,hw,aC (show¬i=l.length by omega)]
   have go:∀z',FZ z' (MP O ST FR (l.take (i+1)))→(rV l ((i+1:Nat):Int) (some z') []).bind (fun amZ=>Sy l (some (sh ST FR)) n ((i+1:Nat):Int) z' amZ)=some (sl (VK O ST FR l)):=by
    intro z' hz'
    by_cases he:i+1=l.length
    ·have:=ih (i+1) z' (by omega) (by omega) hz'
     rw[aA he] at this
     have e2:rV l ((i+1:Nat):Int) (some z') []=some (sl (VK O ST FR l)):=by
      rw[he,K4 z' (hz'.len hO hF)]
      rw[he,List.take_length] at hz'
      exact congrArg some (uM (hz'.perm hO hF))
     grind
    ·have:=ih (i+1) z' (by omega) (by omega) hz'
     rw[aC he] at this
     rw[Hy (by omega)]
     grind
   by_cases hk:Kn ST FR l[i]
   ·have h1:bT bD l[i] (aX (some (sh ST FR)))=true:=(Hv _).2 hk
    have h2:aP bD dJ l[i] (aX (some (sh ST FR)))=(l[i].2,(decide (l[i].1=1),())):=Ox hS hF hk
    rw[aA h1,h2]
    rcases hk with⟨k1,k2⟩|⟨k1,k2⟩
    ·have e:decide (l[i].1=1)=false:=du (by omega)
     rw[e,aC (show¬(false=true) by decide)]
     exact go _ (by rw[et];exact hz.Jm k1 k2)
    ·have e:decide (l[i].1=1)=true:=cE k1
     rw[e,aA rfl,aA (by omega)]
     exact go _ (by rw[et];exact hz.Xq k1 k2)
   ·rw[aC (show¬bT bD l[i] (aX (some (sh ST FR)))=true from fun h'=>hk ((Hv _).1 h'))]
    exact go _ (by rw[et];exact hz.other hk)
  grind
theorem K5(hO:CO O)(hS:CO ST)(hF:CO FR){l:List Sp}(hl:l.length≤1000):∀(n:Nat)(es:List (Pl×In))(z:List (Ik×Bool)),es.length<n→(z.map (·.1)++es.map fun e=>((e.1,(false,())):Ik)).Perm (VK O ST FR [])→
 VI l (some (sh ST FR)) n z es []=some (sl (VK O ST FR l)):=by
 have hM:aH=140737488355328:=rfl
 have hv:=EL (ST:=ST) hO hF []
 intro n
 induction n with
 |zero=>grind
 |
  succ n ih=>
  intro es z hn hp
  unfold VI
  cases es with
  |
   nil=>
   rw[aA (show List.isEmpty ([]:List (Pl×In))=true from rfl)]
   rw[List.map_nil,fL] at hp
   have hz:FZ z (MP O ST FR []):=⟨hp.nodup_iff.2 (Hw hO hF []),fun k=>by rw[hp.mem_iff,K3]⟩
   have key:=Jn hO hS hF hl (Int.toNat (l.length:Int)+1) 0 z (by omega) (by omega) (by grind)
   by_cases he:0=l.length
   ·have hl0:l= []:=List.length_eq_zero_iff.1 he.symm
    rw[aA he] at key
    have e2:rV l (0:Int) (some z) []=some (sl (VK O ST FR l)):=by
     have:=K4 (l:=l) z (hz.len hO hF)
     rw[←he] at this
     rw[show(0:Int)=((0:Nat):Int) from rfl,this,hl0]
     exact congrArg some (uM (hz.perm hO hF))
    grind
   ·rw[aC he] at key
    grind [Hy]
  |
   cons e0 l0=>
   rw[aC (by simp)]
   refine nQ (by simp) fun i hi=>?_
   have hl2:((e0::l0).eraseIdx i).length=l0.length:=by grind
   have hpk:=(gQ (e0::l0) i hi).map fun e=>((e.1,(false,())):Ik)
   rw[gP] at hn
   generalize (e0::l0)[i]=e at hpk
   generalize (e0::l0).eraseIdx i=m at hl2 hpk
   have hp2:=((hpk.append_left (z.map (·.1))).symm).trans hp
   have hzl:z.length≤2000:=by
    have:=hp.length_eq
    grind
   rw[aA (by omega)]
   have hnew:aZ dJ (e.1,(false,())) true z=z++[((e.1,(false,())),true)]:=gw (kt:=dJ) rfl fun hm=>by
    have:=hp2.nodup_iff.2 (Hw hO hF [])
    grind
   grind
theorem Jo(x y:Ik):f40 x y=some (if x.1=y.1∧x.2.1≠y.2.1 then(if y.2.1=true then-1 else 1) else sf x.1 y.1):=by
 unfold f40
 rw[Hr]
 by_cases h:x.1=y.1
 ·rw[aA ((cM aK _ _).2 h),aM]
  grind
 simp_all[cM]
def TX(x y:Ik):Int:=if x.1=y.1∧x.2.1≠y.2.1 then(if y.2.1=true then-1 else 1) else sf x.1 y.1
theorem qo(x y:Ik):TX x y<0↔sf x.1 y.1<0∨x.1=y.1∧x.2.1=false∧y.2.1=true:=by
 unfold TX
 by_cases h:x.1=y.1
 ·grind [vT]
 grind
theorem EM{A:List Ik}(h:A.Nodup):∃ys,ys.Perm A∧∀zs,zs.Perm A→B4 zs=some ys:=by
 refine zb (f:=TX) Jo (fun x=>?_) (fun x y z=>?_) ?_
 ·simp_all[qo,vT]
 ·rw[qo,qo,qo]
  rintro(h1|⟨h1,h2,h3⟩) (g1|⟨g1,g2,g3⟩)
  ·exact Or.inl (Hu _ _ _ h1 g1)
  ·grind
  ·grind
  grind
 grind [List.Pairwise.imp,qo,Ht]
end
theorem yJ{k:kt.den}:∀{z:List (kt.den×α)},k∈z.map (·.1)→(z.map (·.1)).Perm (k::(iZ kt k z).map (·.1))
 |[],h=>by cases h
 |
  e::z,h=>by
  unfold iZ
  by_cases he:bl kt k e.1=true
  ·simp_all[cM]
  ·rw[aC he]
   have h2:k∈z.map (·.1):=by
    grind [cM]
   exact((yJ h2).cons e.1).trans (List.Perm.swap ..)
def KK(O N:List In):List Sp:=((jE O N).map bH).map (fun p=>(((2:Int),p):Sp))++((jE N O).map bH).map fun p=>(((1:Int),p):Sp)
section
variable{O N:List In} {l:List Sp}
theorem K6(hO:CO O)(hN:CO N)(o:Ze):∃Z,B5 o (some (O.map pr)) (some (N.map pr))=some Z∧Z.Perm (jE O N):=by
 grind [gH,B5]
theorem K7(hO:CO O)(hN:CO N)(o:Ze):∃Z,B6 o (some (O.map pr)) (some (N.map pr))=some Z∧Z.Perm (jE N O):=by
 grind [gH,B6]
theorem Jp{ST FR:List In}(hS:CO ST)(hF:CO FR):B7 ST FR=some (sh ST FR):=by
 unfold B7
 rw[st3 (L:=zZ) rfl hS _ (by omega),aG]
 dsimp only
 rw[st8 (L:=z8) rfl hS hF _ (by omega),aG]
theorem TY{ST FR:List In}(hS:ST.Perm (jE O N))(hF:FR.Perm (jE N O)):((sh ST FR).map (·.1)).Perm (KK O N):=by
 rw[As]
 exact((hS.map bH).map _).append ((hF.map bH).map _)
theorem CV(hO:CO O)(hN:CO N)(o:Ze)(hl:l.length≤1000):∃r,qc o (some (O.map pr)) (some (N.map pr)) l=some r∧(r=true↔l.Perm (KK O N)):=by
 have hM:aH=140737488355328:=rfl
 obtain⟨ST,e1,hS⟩:=K6 hO hN o
 obtain⟨FR,e2,hF⟩:=K7 hO hN o
 have cS:=(hO.jE N).perm hS
 have cF:=(hN.jE O).perm hF
 have hK:=TY hS hF
 suffices hW:W (qc o (some (O.map pr)) (some (N.map pr)) l) fun r=>r=true↔l.Perm (KK O N) by
  trivial
 unfold qc
 rw[e1,aM,e2,aM,Jp cS cF,aM]
 have h2:=hK.length_eq
 rw[jo] at h2
 split
 ·rename_i hlen
  simp only[gZ,decide_eq_false_iff_not] at hlen
  exact⟨_,rfl,fun h=>(by cases h),fun h=>absurd h.length_eq (by omega)⟩
 ·rename_i hlen
  have hlen:l.length=(sh ST FR).length:=by grind
  refine bL.2 (W.ct (bX (L:=Aa) rfl (CT (fun _=>l.Perm (KK O N)) fun r=>r=false∧¬l.Perm (KK O N)) l.length (fun c(d:List (Sp×Ik))=>(l,(l.length:Int),(c:Int),d)) (fun c d=>(l.take c++d.map (·.1)).Perm (KK O N)) ?step ?stop _ 0 (sh ST FR) (by omega) (by omega) (by grind)) (fun _ h=>?_) fun r h=>?_)
  case step=>
   intro rec c d hc hd kk
   dsimp only
   rw[cz (by omega),dV c,aA (by omega),cK (t:=bD) hc,aY (by omega)]
   split
   ·rename_i hm
    refine⟨_,rfl,rfl,fun hp=>?_⟩
    have h3:=hd.trans hp.symm
    rw[←kH c l,C8 (by grind),qw,Nat.min_self,List.perm_append_left_iff] at h3
    have h4:l[c]∈d.map (·.1):=h3.mem_iff.2 (by grind [ma])
    rw[(di (kt:=bD) rfl).2 h4] at hm
    cases hm
   ·rename_i hm
    have hm:bT bD l[c] d=true:=by grind
    refine kk _ ?_
    have hp:=yJ ((di (kt:=bD) rfl).1 hm)
    grind [List.take_succ_eq_append_getElem]
  case stop=>
   intro rec d hd
   dsimp only
   rw[aC (by grind)]
   refine⟨_,rfl,?_⟩
   rw[List.take_length] at hd
   have h1:=hd.length_eq
   rw[kG] at h1
   have h3:d.map (·.1)= []:=List.length_eq_zero_iff.1 (by omega)
   rw[h3,fL] at hd
   exact hd
  ·exact⟨_,rfl,fun _=>h,fun _=>rfl⟩
  grind
end
abbrev Ow:=rQ
def ow(p:Pl):Ow:=(p.1,(p.2.1,()))
theorem CW(p:Pl):f59 p=some (ow p):=rfl
def yL(f:Ow→Int)(o:Ow)(v:Int):Ow→Int:=fun q=>if q=o then v else f q
def kp(b:Ow→Bool):(Ow→Int)→List Sp→Bool
 |_,[]=>true
 |f,s::l=>if b (ow s.2)&&decide (yL f (ow s.2) (if s.1=1 then f (ow s.2)+1 else f (ow s.2) -1) (ow s.2)<1) then false else kp b (yL f (ow s.2) (if s.1=1 then f (ow s.2)+1 else f (ow s.2) -1)) l
theorem qp{k:kt.den}{v:α}:∀{z:List (kt.den×α)},bT kt k z=true→(aZ kt k v z).length=z.length
 |[],h=>by cases h
 |
  e::z,h=>by
  unfold aZ
  by_cases he:bl kt k e.1=true
  ·grind
  simp_all[bT,qp]
structure TZ(j:List (Ow×Int))(f:Ow→Int)(n:Nat):Prop where
 get:∀o,aP bw (.int .i64) o j=f o
 len:j.length≤n
 bd:∀o,-(n:Int)≤f o∧f o≤(n:Int)
theorem TZ.put{j:List (Ow×Int)}{f:Ow→Int}{n:Nat}(h:TZ j f n)(o:Ow){v:Int}(hv:v=f o+1∨v=f o -1):TZ (aZ bw o v (aZ bw o (aP bw (.int .i64) o j) j)) (yL f o v) (n+1):=by
 have hk:(bw).keyed=true:=rfl
 refine⟨fun q=>?_,?_,fun q=>?_⟩
 ·unfold yL
  by_cases hq:q=o
  ·subst hq
   rw[aA rfl,dw (kt:=bw) (vt:=.int .i64) hk]
  ·rw[aC hq,dG (kt:=bw) (vt:=.int .i64) hk hq,dG (kt:=bw) (vt:=.int .i64) hk hq,h.get]
 ·have h0:=h.len
  have h1:(aZ bw o (aP bw (.int .i64) o j) j).length≤j.length+1:=dy
  have h2:bT bw o (aZ bw o (aP bw (.int .i64) o j) j)=true:=fP hk o _ j
  have h3:(aZ bw o v (aZ bw o (aP bw (.int .i64) o j) j)).length=(aZ bw o (aP bw (.int .i64) o j) j).length:=qp h2
  omega
 ·have h0:=h.bd o
  have h1:=h.bd q
  unfold yL
  grind
theorem Hz{R:Type}{t:Ty}{x y:t.den}(h:x=y)(K:Option R):nf t x y K=K:=aA h
section
variable{O N:List In} {l:List Sp}
theorem vU{R:Type}{j:List (Ow×Int)}{f:Ow→Int}{n:Nat}(h:TZ j f n)(hn:n≤100000)(o o':Ow)(ho:o'=o)(v:Int)(K:Option R):
 (if bl bw o' o=true then(if j.length+1≤aH then(if bT bw o (aZ bw o (aP bw (.int .i64) o j) j)=true then(nf (.int .i64) (aP bw (.int .i64) o' j) (aP bw (.int .i64) o' (aZ bw o (aP bw (.int .i64) o j) j)) (nf (.int .i64) v v K)) else none) else none) else none)=K:=by
 have hM:aH=140737488355328:=rfl
 have hk:(bw).keyed=true:=rfl
 subst ho
 have hl:=h.len
 rw[aA ((cM _ _ _).2 rfl),aA (by omega),aA (fP hk o' _ j),Hz (by rw[dw (kt:=bw) (vt:=.int .i64) hk]),Hz rfl]
theorem Oz(b:Ow→Bool){k:List (Ow×Bool)}(hk:∀o,aP bw .bool o k=b o)(hl:l.length≤1000):∀(n i:Nat)(j:List (Ow×Int))(f:Ow→Int),l.length -i<n→i≤l.length→TZ j f (2000+i)→
 jV n (l,(l.length:Int),(i:Int),j,k)=some (if kp b f (l.drop i)=true then .brk () else .ret false):=by
 have hM:aH=140737488355328:=rfl
 intro n
 induction n with
 |zero=>grind
 |
  succ n ih=>
  intro i j f hn hi hj
  unfold jV at ih ⊢
  rw[aN]
  generalize aL _ n=rec at ih ⊢
  dsimp only
  by_cases h:i<l.length
  ·have hb:=hj.bd (ow l[i].2)
   have hw:=nY i (by omega)
   rw[cz (by omega),dV i,aA (by omega),cK (t:=bD) h,ma h]
   have hg:aP bw (.int .i64) (l[i].2.1,(l[i].2.2.1,())) j=f (ow l[i].2):=hj.get (ow l[i].2)
   have hO2:((l[i].2.1,(l[i].2.2.1,())):Ow)=ow l[i].2:=rfl
   rw[hO2] at hg ⊢
   have fin:∀v,v=(if l[i].1=1 then f (ow l[i].2)+1 else f (ow l[i].2) -1)→aI (U:=(List Sp)×Int×Int×Ow×(List (Ow×Int))×(List (Ow×Bool))) (some (.brk (l,(l.length:Int),(i:Int),ow l[i].2,aZ bw (ow l[i].2) v (aZ bw (ow l[i].2) (aP bw (.int .i64) (ow l[i].2) j) j),k))) (fun⟨d,e,f,a,c,b⟩=>Option.bind (α:=Bool) (if(aP bw .bool a b)=true then(some (decide ((aP bw (.int .i64) a c)<(1:Int)))) else(some false)) fun v9=>if v9=true then(bU (some false)) else(rec (d,e,bq (f+(1:Int)),c,b)))=some (if kp b f (l[i]::l.drop (i+1))=true then .brk () else .ret false):=by
    intro v hv
    have hj2:=hj.put (ow l[i].2) (v:=v) (by grind)
    rw[aG]
    dsimp only
    rw[hk,hj2.get,hw]
    have hrec:=ih (i+1) _ _ (by omega) (by omega) hj2
    have hkp:kp b f (l[i]::l.drop (i+1))=if(b (ow l[i].2)&&decide (yL f (ow l[i].2) v (ow l[i].2)<1))=true then false else kp b (yL f (ow l[i].2) v) (l.drop (i+1)):=by
     rw[hv];rfl
    rw[hkp]
    cases hbo:b (ow l[i].2) with
    |
     false=>
     grind
    |
     true=>
     rw[Bool.true_and,aA rfl,aM]
     by_cases hlt:yL f (ow l[i].2) v (ow l[i].2)<1
     ·rw[cE hlt,aA rfl,aA rfl]
      rfl
     grind
   by_cases h1:l[i].1=1
   ·rw[cz h1,vU hj (by omega) _ _ rfl,hg,ik (by omega) (by omega)]
    grind
   ·rw[aC (by grind),vU hj (by omega) _ _ rfl,hg,ik (by omega) (by omega)]
    grind
  ·rw[aC (by grind),tK (by omega)]
   rfl
def S3(o:Ow)(x:In):Bool:=decide (ow (bH x)=o)
def dF(A:List In)(o:Ow):Int:=((A.filter (S3 o)).length:Int)
theorem sm(x:In)(A:List In)(o:Ow):dF (x::A) o=(if o=ow (bH x) then 1 else 0)+dF A o:=by
 unfold dF S3
 grind
theorem so{A B:List In}(h:A.Perm B)(o:Ow):dF A o=dF B o:=by
 unfold dF
 rw[(h.filter _).length_eq]
def both(O N:List In)(o:Ow):Bool:=decide (0<dF O o)&&decide (0<dF N o)
theorem HA(A:List In)(o:Ow):0≤dF A o:=dE _
theorem OA(A:List In)(o:Ow):dF A o≤(A.length:Int):=by
 grind [dF]
theorem K8(c:List (Ow×Int))(hc:TZ c (dF O) 2000)(hl:l.length≤1000):∀(n:Nat)(es:List (Pl×In))(d:List (Ow×Bool)),es.length<n→d.length+es.length≤2000→(∀e∈es,e.1=bH e.2)→
 (∀o,(aP bw .bool o d=true∨0<dF O o∧0<dF (es.map (·.2)) o)↔both O N o=true)→
 lM n (l,c,d,es)=some (kp (both O N) (dF O) l):=by
 have hM:aH=140737488355328:=rfl
 intro n
 induction n with
 |zero=>grind
 |
  succ n ih=>
  intro es d hn hd hes hI
  unfold lM at ih ⊢
  rw[aN]
  generalize aL _ n=rec at ih ⊢
  dsimp only
  cases es with
  |
   nil=>
   rw[aA (show List.isEmpty ([]:List (Pl×In))=true from rfl)]
   have hb:∀o,aP bw .bool o d=both O N o:=fun o=>by
    have:=hI o
    have h0:¬(0<dF (([]:List (Pl×In)).map (·.2)) o):=by
     show¬((0:Int)<0)
     omega
    grind
   have e:=Oz (l:=l) (both O N) hb hl (Int.toNat (l.length:Int)+1) 0 c (dF O) (by omega) (by omega) ⟨hc.get,by have:=hc.len;omega,fun o=>by have:=hc.bd o;omega⟩
   have e:jV (Int.toNat (l.length:Int)+1) (l,(l.length:Int),0,c,d)=_:=e
   rw[e,iV]
   cases kp (both O N) (dF O) l<;>rfl
  |
   cons e0 l0=>
   rw[aC (by simp)]
   refine nQ (by simp) fun i hi=>?_
   have hl2:((e0::l0).eraseIdx i).length=l0.length:=by grind
   have he:=hes _ (eT hi)
   have am0:∀e∈(e0::l0).eraseIdx i,e.1=bH e.2:=fun e h'=>hes e (List.mem_of_mem_eraseIdx h')
   have hpk:((e0::l0).map (·.2)).Perm ((e0::l0)[i].2::((e0::l0).eraseIdx i).map (·.2)):=(gQ (e0::l0) i hi).map (·.2)
   have hI:∀o,(aP bw .bool o d=true∨0<dF O o∧0<dF ((e0::l0)[i].2::((e0::l0).eraseIdx i).map (·.2)) o)↔both O N o=true:=fun o=>by rw[←so hpk];grind
   rw[gP] at hn hd
   generalize (e0::l0)[i]=e at he hI
   generalize (e0::l0).eraseIdx i=m at hl2 am0 hI
   obtain⟨q,x⟩:=e
   dsimp only at he hI
   subst he
   dsimp only
   rw[CW,aM,hc.get]
   by_cases hp:0<dF O (ow (bH x))
   ·rw[cz hp,aM,aA (by omega)]
    have hml:(aZ bw (ow (bH x)) true d).length≤d.length+1:=dy
    refine ih m _ (by omega) (by omega) am0 fun o=>?_
    rw[←hI o,sm]
    have h0:=HA (m.map (·.2)) o
    by_cases ho:o=ow (bH x)
    ·subst ho
     rw[dw (kt:=bw) (vt:=.bool) rfl,aA rfl]
     grind
    ·rw[dG (kt:=bw) (vt:=.bool) rfl ho,aC ho,Int.zero_add]
   ·rw[aC (by grind)]
    refine ih m d (by omega) (by omega) am0 fun o=>?_
    rw[←hI o,sm]
    grind
theorem OB(hO:CO O)(hN:CO N)(o:Ze)(hl:l.length≤1000):kf o (some (O.map pr)) (some (N.map pr)) l=some (kp (both O N) (dF O) l):=by
 have hM:aH=140737488355328:=rfl
 have hOl:=hO.len
 have hNl:=hN.len
 have key:∀(n:Nat)(es:List (Pl×In))(d:List (Ow×Int))(f:Ow→Int)(k:Nat),es.length<n→k+es.length≤2000→(∀e∈es,e.1=bH e.2)→TZ d f k→(∀o,f o+dF (es.map (·.2)) o=dF O o)→(∀o,0≤f o)→
  lN n (o,some (O.map pr),some (N.map pr),l,d,[],es)=some (kp (both O N) (dF O) l):=by
  intro n
  induction n with
  |zero=>grind
  |
   succ n ih=>
   intro es d f k hn hk hes hd hI h0
   unfold lN at ih ⊢
   rw[aN]
   generalize aL _ n=rec at ih ⊢
   dsimp only
   cases es with
   |
    nil=>
    rw[aA (show List.isEmpty ([]:List (Pl×In))=true from rfl)]
    have hf:f=dF O:=funext fun o=>by
     simp_all[dF]
    subst hf
    have e:(N.map pr).map (·.2)=N:=by rw[iw];exact List.map_id' N
    refine K8 (N:=N) d ⟨hd.get,by have:=hd.len;omega,fun o=>by have:=HA O o;have:=OA O o;omega⟩ hl _ (N.map pr) [] (by simp[aX]) (by grind) (fun e he=>?_) fun o=>?_
    ·obtain⟨x,_,rfl⟩:=List.mem_map.1 he
     rfl
    ·rw[e]
     unfold both
     rw[bj,j5,j5]
     exact⟨fun h=>h.resolve_left (fun h'=>by cases h'),Or.inr⟩
   |
    cons e0 l0=>
    rw[aC (by simp)]
    refine nQ (by simp) fun i hi=>?_
    have hl2:((e0::l0).eraseIdx i).length=l0.length:=by grind
    have he:=hes _ (eT hi)
    have am0:∀e∈(e0::l0).eraseIdx i,e.1=bH e.2:=fun e h'=>hes e (List.mem_of_mem_eraseIdx h')
    have hpk:((e0::l0).map (·.2)).Perm ((e0::l0)[i].2::((e0::l0).eraseIdx i).map (·.2)):=(gQ (e0::l0) i hi).map (·.2)
    have hI:∀o,f o+dF ((e0::l0)[i].2::((e0::l0).eraseIdx i).map (·.2)) o=dF O o:=fun o=>by rw[←so hpk];grind
    rw[gP] at hn hk
    generalize (e0::l0)[i]=e at he hI
    generalize (e0::l0).eraseIdx i=m at hl2 am0 hI
    obtain⟨q,x⟩:=e
    dsimp only at he hI
    subst he
    dsimp only
    have hO2:(((bH x).1,((bH x).2.1,())):Ow)=ow (bH x):=rfl
    have hb:=hd.bd (ow (bH x))
    rw[CW,aM,hO2,vU hd (by omega) _ _ rfl,hd.get,ik (by omega) (by omega)]
    rw[←hd.get (ow (bH x))]
    have hp:=hd.put (ow (bH x)) (v:=f (ow (bH x))+1) (Or.inl rfl)
    rw[←hd.get (ow (bH x))] at hp
    refine ih m _ _ (k+1) (by omega) (by omega) am0 hp (fun o=>?_) fun o=>?_
    ·rw[←hI o,sm]
     unfold yL
     by_cases ho:o=ow (bH x)
     ·rw[aA ho,aA ho,hd.get,ho];omega
     grind
    ·have:=h0 o
     have:=h0 (ow (bH x))
     unfold yL
     rw[hd.get]
     grind
 unfold kf
 refine key _ (O.map pr) [] (fun _=>0) 0 (by simp[aX]) (by grind) (fun e he=>?_) ⟨fun _=>rfl,by simp,fun _=>by omega⟩ (fun q=>?_) fun _=>mL _
 ·grind
 ·have e:(O.map pr).map (·.2)=O:=by rw[iw];exact List.map_id' O
  grind
end
theorem K9{p:Pl}:∀{m:List (Pl×Bool)},(∀e∈m,e.2=true)→(aP aK .bool p m=true↔p∈m.map (·.1))
 |[],_=>⟨fun h=>(by cases h),fun h=>(by cases h)⟩
 |
  e::m,h=>by
  have ih:=K9 (p:=p) fun e he=>h e (dj _ he)
  rw[dA,fg]
  unfold aP
  by_cases he:bl aK p e.1=true
  ·simp_all[cM]
  simp_all[cM]
section
variable{w:bz} {lo P:Ze} {d k:Int}
def OC(w:bz)(lo:Ze)(d k:Int)(s:Sp):List In:=if yb true (dM w) s.2.1 s.2.2.1 d=true then((LL w lo 0 (s.2.1,(s.2.2.1,((0:Int),())))).run (Oa w d k)).1.2.2.1 else[]
theorem Xr(hs:SA w.1.1)(hT:FT w.1.1)(hf:w.2.1.length≤60)(hcg:CG w.1.1 lo)(hP:P.length≤4){s:Sp}(a0:0≤s.2.1)(a1:s.2.1<(w.1.1.2.2.1.length:Int))(hp:s.2.2.1∈P){ix:List (Ky×List Fa)}(h:∀key,aP aK (.slice 64 bJ) key ix=iT key w.2.1){fo:FM}{se:SM}{rs:List Rd}(hI:MI w.1.1 (tC w P) (Up w P) (Oa w d k) (LL w lo 0) fo se rs):
 ∃b fo' se' rs',Cg s.2.1 s.2.2.1 w (some ix) d k true (dM w) () fo se rs=some (OC w lo d k s,b,w,some ix,d,k,true,dM w,(),fo',se',rs')∧MI w.1.1 (tC w P) (Up w P) (Oa w d k) (LL w lo 0) fo' se' rs'∧(OC w lo d k s).length≤3:=by
 unfold Cg
 rw[CN,aM]
 dsimp only
 unfold OC
 cases hi:yb true (dM w) s.2.1 s.2.2.1 d with
 |
  false=>
  rw[aA (show(!false)=true from rfl),aC (show¬(false=true) by decide)]
  grind
 |
  true=>
  rw[aC (show¬(!true)=true by decide),aA rfl]
  obtain⟨x,ex,fo',se',rfl,h',_,hg⟩:=KQ hs hT hf hcg hP s.2.1 s.2.2.1 h d k () (i:=0) a0 a1 (by omega) (by omega) hp fo se rs hI
  rw[ex]
  exact⟨_,fo',se',_,rfl,h',hg.1⟩
def OD(w:bz)(lo:Ze)(d k:Int)(O N:List In)(l:List Sp)(c:Nat):Prop:=∀n,n<c→∀h:n<l.length,l[n].1=1→∀x∈OC w lo d k l[n],bH x∈(jE N O).map bH→(((1:Int),bH x):Sp)∈l.take n
structure FM'(O N:List In)(m:List (Pl×Bool))(pre:List Sp):Prop where
 nd:(m.map (·.1)).Nodup
 tr:∀e∈m,e.2=true
 mem:∀p,p∈m.map (·.1)↔p∈(jE N O).map bH∧(((1:Int),p):Sp)∉pre
theorem La(hs:SA w.1.1)(hT:FT w.1.1)(hf:w.2.1.length≤60)(hcg:CG w.1.1 lo)(hP:P.length≤4){O N:List In}(hO:CO O)(hN:CO N){l:List Sp}(hll:l.length≤1000)(hl:∀s∈l,s.1=1→0≤s.2.1∧s.2.1<(w.1.1.2.2.1.length:Int)∧s.2.2.1∈P)(o:Ze){ix:List (Ky×List Fa)}(h:∀key,aP aK (.slice 64 bJ) key ix=iT key w.2.1){fo:FM}{se:SM}{rs:List Rd}(hI:MI w.1.1 (tC w P) (Up w P) (Oa w d k) (LL w lo 0) fo se rs):
 W (tA l (some (O.map pr)) (some (N.map pr)) o w (some ix) d k true (dM w) () fo se rs) fun r=>r.1=true↔OD w lo d k O N l l.length:=by
 have hM:aH=140737488355328:=rfl
 obtain⟨FR,e1,hF⟩:=gH hN hO
 have cF:=(hN.jE O).perm hF
 have hFl:=cF.len
 unfold tA nJ
 rw[e1,aM,aM]
 dsimp only
 have e3:tx (Int.toNat (List.length FR:Int)+1) (l,FR,(List.length FR:Int),0,some (O.map pr),some (N.map pr),o,w,some ix,d,k,true,dM w,(),fo,se,rs,([]:List (Pl×Bool)))=some (.brk (l,some (O.map pr),some (N.map pr),o,w,some ix,d,k,true,dM w,(),fo,se,rs,FR.map fun x=>(bH x,true))):=by
  obtain⟨r,e,hr⟩:=bX (L:=tx) rfl (fun r=>r= .brk (l,some (O.map pr),some (N.map pr),o,w,some ix,d,k,true,dM w,(),fo,se,rs,FR.map fun x=>(bH x,true))) FR.length (fun c(s:List (Pl×Bool))=>(l,FR,(FR.length:Int),(c:Int),some (O.map pr),some (N.map pr),o,w,some ix,d,k,true,dM w,(),fo,se,rs,s)) (fun c s=>s=(FR.take c).map fun x=>(bH x,true)) (by
   intro rec c s hc hs kk
   have hsl:s.length≤1000:=by grind
   dsimp only
   rw[cz (by omega),dV c,aA (by omega),cK (t:=bp) hc,aY (by omega)]
   show W (Option.bind (some (bH FR[c])) _) _
   rw[aM,aA (by omega)]
   refine kk _ ?_
   have hsn:((FR.take c).map fun x=>(bH x,true)).map (·.1)=(FR.take c).map bH:=by rw[iw];rfl
   rw[gw (kt:=aK) rfl,hs,List.take_succ_eq_append_getElem hc,gi]
   ·rfl
   ·rw[hs,hsn]
    intro hm
    have h3:((FR.take (c+1)).map bH).Nodup:=((List.take_sublist (c+1) FR).map bH).nodup cF.nd
    rw[List.take_succ_eq_append_getElem hc,gi,j7] at h3
    grind) (by
   intro rec s hs
   dsimp only
   rw[aC (by grind)]
   refine⟨_,rfl,?_⟩<;>grind) (Int.toNat (List.length FR:Int)+1) 0 [] (by omega) (by omega) rfl
  grind
 rw[e3,aG]
 dsimp only
 have hm0:FM' O N (FR.map fun x=>(bH x,true)) []:=by
  have hsn:(FR.map fun x=>(bH x,true)).map (·.1)=FR.map bH:=by simp_all
  refine⟨by rw[hsn];exact cF.nd,fun e he=>?_,fun p=>?_⟩<;>grind
 refine bL.2 (W.ct (bX (L:=Ag) rfl (CT (fun _=>OD w lo d k O N l l.length) fun r=>r.1=false∧¬OD w lo d k O N l l.length) l.length (fun c(s:FM×SM×List Rd×List (Pl×Bool))=>(l,(l.length:Int),(c:Int),some (O.map pr),some (N.map pr),o,w,some ix,d,k,true,dM w,(),s.1,s.2.1,s.2.2.2,s.2.2.1)) (fun c s=>MI w.1.1 (tC w P) (Up w P) (Oa w d k) (LL w lo 0) s.1 s.2.1 s.2.2.1∧FM' O N s.2.2.2 (l.take c)∧OD w lo d k O N l c) ?step ?stop _ 0 (fo,se,rs,FR.map fun x=>(bH x,true)) (by omega) (by omega) ⟨hI,by grind,fun n hn=>absurd hn (Nat.not_lt_zero n)⟩) (fun r hr=>⟨_,rfl,fun _=>hr,fun _=>rfl⟩) fun r hr=>⟨fun h'=>(by grind),fun h'=>absurd h' hr.2⟩)
 case step=>
  rintro rec c ⟨fo,se,rs,m⟩ hc ⟨hI,hm,hod⟩ kk
  dsimp only at hI hm ⊢
  have hw2:=nY c (by omega)
  have et:l.take (c+1)=l.take c++[l[c]]:=List.take_succ_eq_append_getElem hc
  rw[cz (by omega),dV c,aA (show(c:Int)<(l.length:Int) by omega),cK (t:=bD) hc]
  by_cases h1:l[c].1=1
  ·rw[aC (show¬(!decide (l[c].1=(1:Int)))=true by simp[h1])]
   obtain⟨g1,g2,g3⟩:=hl _ (eT hc) h1
   obtain⟨b,fo',se',rs',eb,hI',hbl⟩:=Xr hs hT hf hcg hP g1 g2 g3 h hI
   rw[eb,aM]
   dsimp only
   generalize hB:OC w lo d k l[c]=B at hbl
   refine bL.2 (bL.2 (W.ct (bX (L:=xY) rfl (CT (fun r=>r=(l,(l.length:Int),(c:Int),some (O.map pr),some (N.map pr),o,w,some ix,d,k,true,dM w,(),fo',se',l[c],m,rs')∧∀x∈B,¬aP aK .bool (bH x) m=true) fun r=>∃x,(x.1=false∧¬OD w lo d k O N l l.length)∧r= .ret (.ret x)) B.length (fun i(_:Unit)=>(l,(l.length:Int),(c:Int),B,(B.length:Int),(i:Int),some (O.map pr),some (N.map pr),o,w,some ix,d,k,true,dM w,(),fo',se',l[c],m,rs')) (fun i _=>∀x∈B.take i,¬aP aK .bool (bH x) m=true) ?s2 ?t2 _ 0 () (by omega) (by omega) (fun x hx=>by cases hx)) (fun r hr=>?_) fun r hr=>?_))
   case s2=>
    intro rec2 i _ hi hx kk2
    dsimp only
    rw[cz (by omega),dV i,aA (by omega),cK (t:=bp) hi,aY (by omega)]
    show W (Option.bind (some (bH B[i])) _) _
    rw[aM]
    split
    ·rename_i hg
     rw[K9 hm.tr,hm.mem] at hg
     exact⟨_,rfl,_,⟨rfl,fun am7=>hg.2 (am7 c hc hc h1 _ (by grind) hg.1)⟩,rfl⟩
    ·rename_i hg
     refine kk2 () fun x hx2=>?_
     rw[List.take_succ_eq_append_getElem hi] at hx2
     grind
   case t2=>
    intro rec2 _ hx
    dsimp only
    rw[aC (by grind)]
    rw[List.take_length] at hx
    exact⟨_,rfl,rfl,hx⟩
   ·obtain⟨rfl,hx⟩:=hr
    refine⟨_,rfl,?_⟩
    rw[iG]
    dsimp only
    rw[hw2]
    have am0:(iZ aK l[c].2 m).Sublist m:=nC
    refine kk (fo',se',rs',iZ aK l[c].2 m) ⟨hI',⟨(am0.map _).nodup hm.nd,fun e he=>hm.tr e (am0.subset he),fun p=>?_⟩,fun n hn hnl hn1 x hxb hxF=>?_⟩
    ·rw[sj (kt:=aK) rfl hm.nd,hm.mem,et,qn]
     exact⟨fun⟨q1,q2,q3⟩=>⟨q2,fun q4=>q4.elim q3 fun q5=>q1 q5.2.symm⟩,fun⟨q1,q2⟩=>⟨fun q3=>q2 (Or.inr ⟨h1,q3.symm⟩),q1,fun q4=>q2 (Or.inl q4)⟩⟩
    ·by_cases hnc:n<c
     ·exact hod n hnc hnl hn1 x hxb hxF
     ·have:n=c:=by omega
      subst this
      rw[hB] at hxb
      have h5:=hx x hxb
      rw[K9 hm.tr,hm.mem] at h5
      grind
   ·obtain⟨x,hx,rfl⟩:=hr
    exact hx
  ·rw[aA (show(!decide (l[c].1=(1:Int)))=true by simp[h1]),aG]
   dsimp only
   rw[hw2]
   refine kk (fo,se,rs,m) ⟨hI,⟨hm.nd,hm.tr,fun p=>?_⟩,fun n hn hnl hn1 x hxb hxF=>?_⟩
   ·rw[hm.mem,et,qn]
    exact and_congr Iff.rfl (not_congr ⟨Or.inl,fun q=>q.resolve_right fun q2=>h1 q2.1⟩)
   ·by_cases hnc:n<c
    ·exact hod n hnc hnl hn1 x hxb hxF
    grind
 case stop=>
  rintro rec ⟨fo,se,rs,m⟩ ⟨_,_,hod⟩
  dsimp only
  rw[aC (by grind)]
  exact⟨_,rfl,hod⟩
theorem l9(hs:SA w.1.1)(hT:FT w.1.1)(hf:w.2.1.length≤60)(hcg:CG w.1.1 lo)(er:f44 w.1=some 0)(hP:P.length≤4)(hn:P.Nodup):CO (CL w lo P d k):=by
 refine⟨KX hcg hn,?_,fun x hx=>?_⟩
 ·have:=ll (f:=fun p=>AL w lo p d k) (n:=24) (l:=P) fun p _=>(vQ hs hT hf hcg er p d k).1
  unfold CL
  omega
 ·obtain⟨p,_,hx⟩:=List.mem_flatMap.1 hx
  grind [vQ]
end
structure CK(w:bz)(P:Ze)(d b a:Int)(l:List Sp):Prop where
 ok:fb w P d b a≠none
 cg:CG w.1.1 w.1.2.1
 er:f44 w.1=some 0
 vp:VP P d
 all:l.Perm (KK (CL w w.1.2.1 P d b) (CL w w.1.2.1 P d a))
 kp:kp (both (CL w w.1.2.1 P d b) (CL w w.1.2.1 P d a)) (dF (CL w w.1.2.1 P d b)) l=true
 od:OD w w.1.2.1 d a (CL w w.1.2.1 P d b) (CL w w.1.2.1 P d a) l l.length
variable{N:List In}
theorem sq{s:Sp}:s∈KK O N↔s.1=2∧s.2∈(jE O N).map bH∨s.1=1∧s.2∈(jE N O).map bH:=by
 unfold KK
 grind
theorem Lb{l:List Sp}(hs:SA w.1.1)(hT:FT w.1.1)(hf:w.2.1.length≤60)(hP:P.length≤4)(hll:l.length≤1000)(d b a:Int):∃r,f11 w P d b a l=some r∧(r=true↔CK w P d b a l):=by
 suffices hW:W (f11 w P d b a l) fun r=>r=true↔CK w P d b a l by
  trivial
 unfold f11 G8 Hc
 rcases pt hs hT hf hP d b a with h0|⟨e2,hcg,er,o,ix,fo,se,rs,e1,_,hvp,hI,hix⟩
 ·obtain⟨e1,e2⟩:=h0 b a
  rw[e1,e2]
  exact⟨_,rfl,fun h=>(by cases h),fun h=>absurd e1 h.ok⟩
 ·have hO:=l9 (d:=d) (k:=b) hs hT hf hcg er hP hvp.i7
  have hN:=l9 (d:=d) (k:=a) hs hT hf hcg er hP hvp.i7
  have fT:fb w P d b a≠none:=by grind
  rw[e1,e2,aM,nP hcg hvp.i7,nP hcg hvp.i7]
  dsimp only
  rw[aA rfl]
  obtain⟨r1,c1,h1⟩:=CV (l:=l) hO hN o hll
  rw[c1,aM]
  cases r1 with
  |
   false=>
   rw[aC (show¬(false=true) by decide)]
   exact⟨_,rfl,fun h=>(by cases h),fun h=>absurd (h1.2 h.all) (by decide)⟩
  |
   true=>
   have am7:=h1.1 rfl
   rw[aA rfl,OB hO hN o hll,aM]
   by_cases hk:kp (both (CL w w.1.2.1 P d b) (CL w w.1.2.1 P d a)) (dF (CL w w.1.2.1 P d b)) l=true
   ·rw[aA hk]
    obtain⟨r,e3,h3⟩:=La (o:=o) hs hT hf hcg hP hO hN hll (fun s hsl hs1=>by
     rcases sq.1 (am7.mem_iff.1 hsl) with⟨q1,_⟩|⟨_,q2⟩
     ·omega
     ·obtain⟨x,hx,ex⟩:=List.mem_map.1 q2
      obtain⟨g1,g2,g3,_⟩:=CP hcg x (fD.1 hx).1
      rw[←ex]
      trivial) hix hI
    rw[e3,aM]
    exact⟨_,rfl,fun hr=>⟨fT,hcg,er,hvp,am7,hk,h3.1 hr⟩,fun h=>h3.2 h.od⟩
   ·rw[aC hk]
    exact⟨_,rfl,fun h=>(by cases h),fun h=>absurd h.kp hk⟩
def XV(O N:List In)(l:List Sp):List In:=(O.filter fun x=> !(decide (((2:Int),bH x)∈l)&& !decide (x∈N)))++(jE N O).filter fun x=>decide (((1:Int),bH x)∈l)
def mG(O N:List In)(k:Ik):In:=if k.2.1=true then aP aK bp k.1 (N.map pr) else aP aK bp k.1 (O.map pr)
theorem T0(hA:(A.map bH).Nodup)(hs:∀x∈B,x∈A){x:In}(hx:x∈A):bH x∈B.map bH↔x∈B:=
 ⟨fun h=>by
  grind [S1],fun h=>List.mem_map.2 ⟨x,h,rfl⟩⟩
theorem OE{ST:List In}(hO:CO O)(hN:CO N)(hS:ST.Perm (jE O N))(hF:FR.Perm (jE N O))(l:List Sp):((VK O ST FR l).map (mG O N)).Perm (XV O N l):=by
 unfold VK XV
 rw[gi,iw,iw]
 refine List.Perm.append ?_ ?_
 ·have e1:(O.filter (tD ST l)).map (mG O N∘fun x=>((bH x,(false,())):Ik))=O.filter (tD ST l):=by
   refine(List.map_congr_left fun x hx=>?_).trans (List.map_id' _)
   exact Aq hO.nd (List.mem_filter.1 hx).1
  have e2:O.filter (tD ST l)=O.filter fun x=> !(decide (((2:Int),bH x)∈l)&& !decide (x∈N)):=by
   refine List.filter_congr fun x hx=>?_
   unfold tD
   have h1:bH x∈ST.map bH↔¬x∈N:=by
    rw[T0 hO.nd (fun y hy=>(fD.1 (hS.mem_iff.1 hy)).1) hx,hS.mem_iff,fD]
    grind
   simp_all
  grind
 ·have e1:(FR.filter fun x=>decide (((1:Int),bH x)∈l)).map (mG O N∘fun x=>((bH x,(true,())):Ik))=FR.filter fun x=>decide (((1:Int),bH x)∈l):=by
   refine(List.map_congr_left fun x hx=>?_).trans (List.map_id' _)
   exact Aq hN.nd (fD.1 (hF.mem_iff.1 (List.mem_filter.1 hx).1)).1
  grind
theorem T1{ST:List In}:VK O ST FR []=O.map fun x=>((bH x,(false,())):Ik):=by
 grind [VK,List.filter_eq_self,sk,List.filter_eq_nil_iff]
theorem acw{l:List Sp}(hs:SA w.1.1)(hT:FT w.1.1)(hf:w.2.1.length≤60)(hP:P.length≤4)(hll:l.length≤1000){d b a:Int}(fT:fb w P d b a≠none):∃X,f13 w P d b a l=some X∧X.Perm (XV (CL w w.1.2.1 P d b) (CL w w.1.2.1 P d a) l):=by
 have hM:aH=140737488355328:=rfl
 rcases pt hs hT hf hP d b a with h0|⟨_,hcg,er,o,ix,fo,se,rs,e1,_,hvp,_,_⟩
 ·grind
 have hO:=l9 (d:=d) (k:=b) hs hT hf hcg er hP hvp.i7
 have hN:=l9 (d:=d) (k:=a) hs hT hf hcg er hP hvp.i7
 generalize hOe:CL w w.1.2.1 P d b=O at hO
 generalize hNe:CL w w.1.2.1 P d a=N at hN
 obtain⟨ST,es,hS⟩:=gH hO hN
 obtain⟨FR,ef,hF⟩:=gH hN hO
 have cS:=(hO.jE N).perm hS
 have cF:=(hN.jE O).perm hF
 have hvl:=EL (ST:=ST) hO cF l
 obtain⟨ys,hys,hsort⟩:=EM (A:=VK O ST FR l) (Hw hO cF l)
 have hyl:=hys.length_eq
 refine⟨ys.map (mG O N),?_,(hys.map _).trans (OE hO hN hS hF l)⟩
 suffices hW:oK w P d b a l=some (ys.map (mG O N)) by
  unfold f13
  rw[hW]
  rfl
 unfold oK
 rw[e1,aM,nP hcg hvp.i7,nP hcg hvp.i7,hOe,hNe]
 dsimp only
 rw[aC (by decide)]
 unfold nK nJ
 rw[es,aM,aM]
 dsimp only
 rw[ef,aM,aM]
 dsimp only
 rw[K2 cS cF,aM]
 have efill:=K5 hO cS cF hll (List.length (aX (some (O.map pr)))+1) (O.map pr) [] (by simp[aX]) (by
  rw[iw,T1]
  trivial)
 have efill:VI l (some (sh ST FR)) (List.length (aX (some (O.map pr)))+1) [] (aX (some (O.map pr))) []=_:=efill
 rw[efill,aM]
 refine vS (dP _) fun q hq=>?_
 rw[hsort q (hq.trans Hx),aM]
 obtain⟨r,e,hr⟩:=bX (L:=l7) rfl (fun r=>r= .brk (ys.map (mG O N))) ys.length (fun c(s:List In)=>((ys.length:Int),(c:Int),o,w,some ix,d,a,true,dM w,(),some (O.map pr),some (N.map pr),rs,fo,se,ys,s)) (fun c s=>s=(ys.take c).map (mG O N)) (by
  intro rec c s hc hs kk
  have hsl:s.length≤2000:=by grind
  dsimp only
  rw[cz (by omega),dV c,aA (by omega),cK (t:=dJ) hc,aY (by omega)]
  have et:(ys.take (c+1)).map (mG O N)=s++[mG O N ys[c]]:=by grind [List.take_succ_eq_append_getElem]
  split
  ·rename_i hfr
   rw[aA (by grind)]
   refine kk _ ?_
   rw[et]
   unfold mG
   rw[aA hfr]
   rfl
  ·rename_i hfr
   rw[aA (by grind)]
   refine kk _ ?_
   rw[et]
   unfold mG
   rw[aC hfr]
   rfl) (by
  intro rec s hs
  dsimp only
  rw[aC (by grind)]
  refine⟨_,rfl,?_⟩<;>grind) (Int.toNat (ys.length:Int)+1) 0 [] (by omega) (by omega) rfl
 subst hr
 have e:l7 (Int.toNat (ys.length:Int)+1) ((ys.length:Int),0,o,w,some ix,d,a,true,dM w,(),some (O.map pr),some (N.map pr),rs,fo,se,ys,([]:List In))=_:=e
 rw[e,aG]
theorem yM(p:α→Bool):∀l:List α,l.length=(l.filter p).length+(l.filter fun x=> !p x).length
 |[]=>rfl
 |
  x::l=>by
  have:=yM p l
  grind
def nI(l:List Sp)(o:Ow):Int:=((l.filter fun s=>decide (s.1=1)&&decide (ow s.2=o)).length:Int)
def nS(l:List Sp)(o:Ow):Int:=((l.filter fun s=> !decide (s.1=1)&&decide (ow s.2=o)).length:Int)
theorem Lc{b:Ow→Bool}:∀{l:List Sp}{f:Ow→Int},kp b f l=true→(∀o,b o=true→1≤f o)→∀(n:Nat)(o:Ow),b o=true→1≤f o+nI (l.take n) o -nS (l.take n) o
 |
  _,f,_,hf,0,o,ho=>by
  have:=hf o ho
  rw[List.take_zero]
  show 1≤f o+0 -0
  omega
 |
  [],f,_,hf,n+1,o,ho=>by
  have:=hf o ho
  show 1≤f o+0 -0
  omega
 |
  s::l,f,h,hf,n+1,o,ho=>by
  obtain⟨v,hv⟩:∃v,v=(if s.1=1 then f (ow s.2)+1 else f (ow s.2) -1):=⟨_,rfl⟩
  have h:(if(b (ow s.2)&&decide (yL f (ow s.2) v (ow s.2)<1))=true then false else kp b (yL f (ow s.2) v) l)=true:=by rw[hv];exact h
  by_cases hb:(b (ow s.2)&&decide (yL f (ow s.2) v (ow s.2)<1))=true
  ·grind
  ·rw[aC hb] at h
   simp only[bj,j5,not_and,Int.not_lt] at hb
   have ih:=Lc h (fun q hq=>by
    by_cases e:q=ow s.2
    ·grind
    simp_all[yL]) n o ho
   unfold yL at ih
   rw[List.take_succ_cons]
   unfold nI nS at ih ⊢
   grind
theorem Ld(A B:List In)(o:Ow):dF (A++B) o=dF A o+dF B o:=by
 grind [dF]
section
variable{O N:List In} {l:List Sp}
theorem Lf{A:List In}(hA:(A.map bH).Nodup)(hl:l.Nodup)(k:Int)(q:Sp→Bool)(hq:∀s∈l,q s=true↔s.1=k)(hs:∀s∈l,s.1=k→s.2∈A.map bH)(hA2:∀x∈A,((k,bH x):Sp)∈l)(o:Ow):
 ((l.filter fun s=>q s&&decide (ow s.2=o)).length:Int)=dF A o:=by
 have hp:(l.filter fun s=>q s&&decide (ow s.2=o)).Perm ((A.filter (S3 o)).map fun x=>((k,bH x):Sp)):=by
  refine(List.perm_ext_iff_of_nodup (List.Pairwise.filter _ hl) ?_).2 fun s=>?_
  ·grind
  ·rw[List.mem_filter,qt,bj,j5]
   constructor
   ·grind [S3]
   ·rintro⟨x,hx,rfl⟩
    obtain⟨hx,ho⟩:=List.mem_filter.1 hx
    exact⟨hA2 x hx,(hq _ (hA2 x hx)).2 rfl,tH ho⟩
 unfold dF
 rw[hp.length_eq,jo]
theorem Lg(hO:CO O)(hN:CO N)(hl:l.Nodup)(hK:∀s∈l,s∈KK O N)(o:Ow):dF (XV O N l) o=dF O o+nI l o -nS l o:=by
 have h1:nI l o=dF ((jE N O).filter fun x=>decide (((1:Int),bH x)∈l)) o:=by
  refine Lf ((List.filter_sublist.map bH).nodup (hN.jE O).nd) hl 1 _ (fun s _=>decide_eq_true_iff) (fun s hs h=>?_) (fun x hx=>tH (List.mem_filter.1 hx).2) o
  rcases sq.1 (hK s hs) with⟨h2,_⟩|⟨_,h2⟩<;>grind
 have h2:nS l o=dF (O.filter fun x=> !!(decide (((2:Int),bH x)∈l)&& !decide (x∈N))) o:=by
  refine Lf ((List.filter_sublist.map bH).nodup hO.nd) hl 2 _ (fun s hs=>?_) (fun s hs h=>?_) (fun x hx=>?_) o
  ·grind [sq]
  ·grind [sq,fD]
  grind
 have h3:=yM (fun x=> !(decide (((2:Int),bH x)∈l)&& !decide (x∈N))) (O.filter (S3 o))
 have h4:dF O o=dF (O.filter fun x=> !(decide (((2:Int),bH x)∈l)&& !decide (x∈N))) o+dF (O.filter fun x=> !!(decide (((2:Int),bH x)∈l)&& !decide (x∈N))) o:=by
  unfold dF
  rw[List.filter_filter,List.filter_filter] at h3
  rw[List.filter_filter,List.filter_filter]
  simp only[Bool.and_comm (S3 o _)]
  omega
 grind [XV,Ld]
theorem T3:XV O N []=O:=by
 grind [XV,List.filter_eq_self,List.filter_eq_nil_iff]
theorem T4{x:In}(h:x∈XV O N l):x∈O∨x∈N:=by
 grind [XV,fD]
theorem Lh(hO:CO O)(hN:CO N)(hK:l.Perm (KK O N)):(XV O N l).Perm N:=by
 have k1:∀x∈jE N O,((1:Int),bH x)∈l:=fun x hx=>hK.mem_iff.2 (sq.2 (Or.inr ⟨rfl,List.mem_map.2 ⟨x,hx,rfl⟩⟩))
 have k2:∀x∈O,x∉N→((2:Int),bH x)∈l:=fun x hx hn=>hK.mem_iff.2 (sq.2 (Or.inl ⟨rfl,List.mem_map.2 ⟨x,fD.2 ⟨hx,hn⟩,rfl⟩⟩))
 refine(List.perm_ext_iff_of_nodup ?_ (KZ hN.nd)).2 fun x=>?_
 ·unfold XV
  rw[j7]
  refine⟨List.Pairwise.filter _ (KZ hO.nd),List.Pairwise.filter _ (KZ (hN.jE O).nd),fun x hx y hy e=>?_⟩
  grind [fD]
 ·unfold XV
  rw[jb,List.mem_filter,List.mem_filter]
  constructor
  ·rintro(⟨h1,h2⟩|⟨h1,_⟩)
   ·grind
   ·exact(fD.1 h1).1
  grind [fD]
end
theorem T5(x y:In)(hx:x.2.2.2.1.length≤1000):f42 x y=some (decide (x=y)):=by
 have hM:aH=140737488355328:=rfl
 have e65:f65 x y=some (decide (bH x=bH y)):=by
  unfold f65
  by_cases h1:x.1=y.1
  ·rw[cz h1]
   by_cases h2:x.2.1=y.2.1
   ·rw[cz h2,aM]
    refine congrArg some (decide_eq_decide.2 ⟨fun h=>TV h1 h2 h,fun h=>?_⟩)
    exact(Prod.mk.inj (Prod.mk.inj (Prod.mk.inj h).2).2).1
   ·rw[aC (by grind),aM,du (show¬bH x=bH y from fun h=>h2 (Prod.mk.inj (Prod.mk.inj h).2).1)]
  ·rw[aC (by grind),aM,du (show¬bH x=bH y from fun h=>h1 (Prod.mk.inj h).1)]
 unfold f42
 rw[e65,aM]
 by_cases hp:bH x=bH y
 ·rw[cE hp,aC (show¬(!true)=true by decide),aM]
  by_cases hl:x.2.2.2.1.length=y.2.2.2.1.length
  ·rw[aC (show¬(!decide ((x.2.2.2.1.length:Int)=(y.2.2.2.1.length:Int)))=true by simp[hl]),aG]
   dsimp only
   have key:=ua (L:=ND) rfl x.2.2.2.1.length (fun i=>((i:Int),x,y)) () (fun i=>nth (.int .i64) x.2.2.2.1 (i:Int)=nth (.int .i64) y.2.2.2.1 (i:Int)) (fun r:Bool=>r=false∧x≠y) (by
    intro rec i hi
    dsimp only
    rw[cz (by omega),dV i,aA (by omega),dV i,aA (by omega),aY (by omega)]
    by_cases he:nth (.int .i64) x.2.2.2.1 (i:Int)=nth (.int .i64) y.2.2.2.1 (i:Int)
    ·grind
    ·rw[aA (by simp[he])]
     exact Or.inr ⟨false,⟨rfl,fun e=>he (by rw[e])⟩,rfl⟩) (by
    grind) iB (sM (by omega))
   grind [KY,List.ext_getElem,cK,aG,dp]
  ·rw[aA (show(!decide ((x.2.2.2.1.length:Int)=(y.2.2.2.1.length:Int)))=true by grind),du fun e=>hl (by rw[e])]
   rfl
 ·rw[du hp,aA (show(!false)=true by rfl),aM,aA rfl,du fun e=>hp (by rw[e])]
  rfl
def Fw(A:List In):Prop:=A.length≤4000∧∀x∈A,x.2.2.2.1.length≤1000
theorem CO.fw(h:CO A):Fw A:=⟨by have:=h.len;omega,h.yc⟩
theorem EN(hA:Fw A)(x:In):f14 A x=some (decide (x∈A)):=by
 have hM:aH=140737488355328:=rfl
 have hl:=hA.1
 have key:=ua (L:=Hg) rfl A.length (fun i=>(A,(i:Int),x)) () (fun i=>nth bp A (i:Int)≠x) (fun r:Bool=>r=true∧x∈A) (by
  intro rec i hi
  have hm:=eT hi
  dsimp only
  rw[cz (by omega),dV i,aA (by omega),cK (t:=bp) hi,T5 _ x (hA.2 _ hm),aM,aY (by omega)]
  by_cases he:A[i]=x
  ·rw[cz he]
   exact Or.inr ⟨true,⟨rfl,he▸hm⟩,rfl⟩
  grind) (by
  grind) iB (sM (by omega))
 unfold f14
 rcases key with⟨h1,h2⟩|⟨r,⟨h1,h1'⟩,h2⟩
 ·have h2:Hg iB (A,0,x)=_:=h2
  rw[h2,aG,du]
  intro hx
  obtain⟨i,hi,e⟩:=jn hx
  simp_all[cK]
 grind [dp]
theorem CX(hA:Fw A)(s p:Int):f32 A s p=some (decide (∃x∈A,x.1=s∧x.2.1=p)):=by
 have hM:aH=140737488355328:=rfl
 have hl:=hA.1
 have key:=ua (L:=Hf) rfl A.length (fun i=>(A,s,p,(i:Int))) () (fun i=>¬((nth bp A (i:Int)).1=s∧(nth bp A (i:Int)).2.1=p)) (fun r:Bool=>r=true∧∃x∈A,x.1=s∧x.2.1=p) (by
  intro rec i hi
  have hm:=eT hi
  dsimp only
  rw[cz (by omega),dV i,aA (show(i:Int)<(A.length:Int) by omega),cK (t:=bp) hi,aY (by omega)]
  by_cases h1:A[i].1=s
  ·rw[cz h1,dV i,aA (show(i:Int)<(A.length:Int) by omega),aM]
   by_cases h2:A[i].2.1=p
   ·rw[cz h2]
    exact Or.inr ⟨true,⟨rfl,A[i],hm,h1,h2⟩,rfl⟩
   grind
  grind) (by
  grind) iB (sM (by omega))
 unfold f32
 rcases key with⟨h1,h2⟩|⟨r,⟨h1,h1'⟩,h2⟩
 ·have h2:Hf iB (A,s,p,0)=_:=h2
  rw[h2,aG,du]
  rintro⟨x,hx,e⟩
  obtain⟨i,hi,ei⟩:=jn hx
  have:=h1 i hi
  simp_all[cK]
 grind [dp]
theorem CY(hA:Fw A)(hB:Fw B)(h:A.Perm B):f33 A B=some true:=by
 have hM:aH=140737488355328:=rfl
 have hl:=hA.1
 have hlen:=h.length_eq
 have key:=ua (L:=N0) rfl A.length (fun i=>(B,A,(A.length:Int),(i:Int))) () (fun _=>True) (fun _:Bool=>False) (by
  intro rec i hi
  have hm:=h.mem_iff.1 (eT hi)
  dsimp only
  rw[cz (by omega),dV i,aA (by omega),cK (t:=bp) hi,EN hB,aM,aY (by omega),cE hm,aC (by decide)]
  grind) (by
  grind) (Int.toNat (List.length A:Int)+1) (by omega)
 simp_all[f33,aG]
section
variable{w:bz} {P:Ze} {l:List Sp} {d b a:Int}
theorem CZ(hs:SA w.1.1)(hT:FT w.1.1)(hf:w.2.1.length≤60)(hcg:CG w.1.1 w.1.2.1)(er:f44 w.1=some 0)(hP:P.length≤4)(d k:Int):f31 w P d k=some (CL w w.1.2.1 P d k):=by
 have hM:aH=140737488355328:=rfl
 obtain⟨r,e,hr⟩:=bX (L:=NZ) rfl (fun r=>r= .brk (CL w w.1.2.1 P d k)) P.length (fun c(s:List In)=>(d,k,P,(P.length:Int),(c:Int),w,s)) (fun c s=>s=CL w w.1.2.1 (P.take c) d k∧s.length≤24*c) (by
  rintro rec c s hc ⟨hs2,hsl⟩ kk
  obtain⟨a1,_,_,_⟩:=SU hs hT hf er (fun _=>hcg) P[c] d k
  obtain⟨g1,_⟩:=vQ hs hT hf hcg er P[c] d k
  have g1:((AQ w w.1.2.1 0 P[c] d).run (Oa w d k)).1.length≤24:=g1
  dsimp only
  rw[cz (by omega),dV c,aA (by omega),cK (t:=.int .i64) hc,a1,aM]
  dsimp only
  rw[aA (by omega),aY (by omega)]
  refine kk _ ⟨?_,by grind⟩
  unfold CL at hs2 ⊢
  rw[List.take_succ_eq_append_getElem hc,List.flatMap_append,hs2]
  simp only[List.flatMap_cons,List.flatMap_nil,fL]
  rfl) (by
  rintro rec s ⟨hs2,_⟩
  dsimp only
  rw[aC (by grind)]
  rw[List.take_length] at hs2
  exact⟨_,rfl,by rw[hs2]⟩) (Int.toNat (List.length P:Int)+1) 0 [] (by omega) (by omega) ⟨rfl,by simp⟩
 simp_all[f31,aG]
theorem OF(hck:CK w P d b a l)(hO:CO (CL w w.1.2.1 P d b))(hN:CO (CL w w.1.2.1 P d a))(n:Nat){c:In}(hc:c∈CL w w.1.2.1 P d b)(hh:∃x∈CL w w.1.2.1 P d a,x.1=c.1∧x.2.1=c.2.1){X:List In}(hX:X.Perm (XV (CL w w.1.2.1 P d b) (CL w w.1.2.1 P d a) (l.take n))):∃x∈X,x.1=c.1∧x.2.1=c.2.1:=by
 have hlnd:l.Nodup:=hck.all.nodup_iff.2 (by
  rw[KK,j7]
  refine⟨lq (hO.jE _).nd,lq (hN.jE _).nd,fun x hx y hy e=>?_⟩<;>grind)
 have pos:∀{A:List In}{x:In},x∈A→1≤dF A (ow (bH x)):=fun{A x} hx=>by
  have:0<(A.filter (S3 (ow (bH x)))).length:=List.length_pos_of_mem (List.mem_filter.2 ⟨hx,cE rfl⟩)
  unfold dF
  omega
 have fnd:∀{A:List In}{o:Ow},1≤dF A o→∃x∈A,ow (bH x)=o:=fun{A o} h=>by
  unfold dF at h
  obtain⟨x,hx⟩:=List.exists_mem_of_length_pos (l:=A.filter (S3 o)) (by omega)
  exact⟨x,(List.mem_filter.1 hx).1,tH (List.mem_filter.1 hx).2⟩
 obtain⟨y,hy,ey⟩:=hh
 have eow:ow (bH y)=ow (bH c):=by
  show((y.1,(y.2.1,())):Ow)=(c.1,(c.2.1,()))
  grind
 have hbo:both (CL w w.1.2.1 P d b) (CL w w.1.2.1 P d a) (ow (bH c))=true:=by
  have h1:=pos hc
  have h2:=pos hy
  rw[eow] at h2
  unfold both
  grind
 have hf:=Lc hck.kp (fun o ho=>by
  unfold both at ho
  grind) n _ hbo
 have hx:=Lg (l:=l.take n) hO hN ((List.take_sublist n l).nodup hlnd) (fun s hs=>hck.all.mem_iff.1 (List.mem_of_mem_take hs)) (ow (bH c))
 rw[←hx] at hf
 obtain⟨x,hx,ex⟩:=fnd hf
 have ex:((x.1,(x.2.1,())):Ow)=(c.1,(c.2.1,())):=ex
 grind
theorem EO(hs:SA w.1.1)(hT:FT w.1.1)(hf:w.2.1.length≤60)(hP:P.length≤4)(hll:l.length≤1000)(hck:CK w P d b a l)(hO:CO (CL w w.1.2.1 P d b))(hN:CO (CL w w.1.2.1 P d a)):
 Co (Int.toNat (bq ((l.length:Int)+(1:Int)))+1) (P,d,b,a,l,CL w w.1.2.1 P d b,CL w w.1.2.1 P d a,bq ((l.length:Int)+(1:Int)),0,w)=some (.brk ()):=by
 have hM:aH=140737488355328:=rfl
 have hw:bq ((l.length:Int)+(1:Int))=((l.length+1:Nat):Int):=aY (by omega)
 rw[hw]
 have val:=fun(n:Nat)=>acw (l:=l.take n) hs hT hf hP (by grind) hck.ok
 have kin:=fun(n:Nat)(c:In) hc hh(X:List In) hX=>OF hck hO hN n (c:=c) hc hh (X:=X) hX
 have am7:=hck.all
 clear hck
 generalize CL w w.1.2.1 P d b=O at hO val kin am7 ⊢
 generalize CL w w.1.2.1 P d a=N at hN val kin am7 ⊢
 have hOl:=hO.len
 have hNl:=hN.len
 suffices hW:W (Co (Int.toNat ((l.length+1:Nat):Int)+1) (P,d,b,a,l,O,N,((l.length+1:Nat):Int),0,w)) fun r=>r= .brk () by
  obtain⟨r,e,hr⟩:=hW
  grind
 refine bX (L:=Co) rfl _ (l.length+1) (fun c(_:Unit)=>(P,d,b,a,l,O,N,((l.length+1:Nat):Int),(c:Int),w)) (fun _ _=>True) ?step ?stop _ 0 () (by omega) (by omega) trivial
 case step=>
  intro rec c _ hc _ kk
  dsimp only
  obtain⟨X,eX,hX⟩:=val c
  have hXl:X.length≤4000:=by
   have h1:=hX.length_eq
   grind [XV,jE]
  have hXsub:∀x∈X,x∈O∨x∈N:=fun x hx=>T4 (hX.mem_iff.1 hx)
  have fX:Fw X:=⟨hXl,fun x hx=>(hXsub x hx).elim (hO.yc x) (hN.yc x)⟩
  rw[cz (by omega),dV c,aA (by omega)]
  have ecut:ou l 0 (Int.toNat (c:Int))=l.take c:=rfl
  rw[ecut,eX,aM]
  have e9:Hh (Int.toNat (List.length O:Int)+1) (P,d,b,a,l,O,N,(c:Int),X,((l.length+1:Nat):Int),(c:Int),O,(List.length O:Int),0,w)=some (.brk (P,d,b,a,l,O,N,(c:Int),X,((l.length+1:Nat):Int),(c:Int),w)):=by
   rcases ua (L:=Hh) rfl O.length (fun i=>(P,d,b,a,l,O,N,(c:Int),X,((l.length+1:Nat):Int),(c:Int),O,(List.length O:Int),(i:Int),w)) (P,d,b,a,l,O,N,(c:Int),X,((l.length+1:Nat):Int),(c:Int),w) (fun _=>True) (fun _=>False) (by
    intro rec i hi
    have hm:=eT hi
    dsimp only
    rw[cz (by omega),dV i,aA (by omega),cK (t:=bp) hi,CX hN.fw,aM,aY (by omega)]
    refine Or.inl ⟨trivial,?_⟩
    by_cases hh:∃x∈N,x.1=O[i].1∧x.2.1=O[i].2.1
    ·rw[cE hh,aA rfl,CX fX,aM,cE (kin c _ hm hh X hX),aM,aC (by decide)]
    grind) (by
    grind) (Int.toNat (List.length O:Int)+1) (by omega) with⟨_,h2⟩|⟨r,h1,_⟩
   ·exact h2
   grind
  rw[e9,aG]
  dsimp only
  have e15:Cn (Int.toNat (List.length X:Int)+1) (P,d,b,a,l,O,N,(c:Int),X,((l.length+1:Nat):Int),(c:Int),X,(List.length X:Int),0,w)=some (.brk (P,d,b,a,l,O,N,(c:Int),X,((l.length+1:Nat):Int),(c:Int),w)):=by
   rcases ua (L:=Cn) rfl X.length (fun i=>(P,d,b,a,l,O,N,(c:Int),X,((l.length+1:Nat):Int),(c:Int),X,(List.length X:Int),(i:Int),w)) (P,d,b,a,l,O,N,(c:Int),X,((l.length+1:Nat):Int),(c:Int),w) (fun _=>True) (fun _=>False) (by
    intro rec i hi
    have hm:=hXsub _ (eT hi)
    dsimp only
    rw[cz (by omega),dV i,aA (by omega),cK (t:=bp) hi,EN hO.fw,aM,aY (by omega)]
    refine Or.inl ⟨trivial,?_⟩
    by_cases ho:X[i]∈O
    ·grind
    ·rw[du ho,aA (by decide),EN hN.fw,aM,cE (hm.resolve_left ho),aM,aC (by decide)]) (by
    grind) (Int.toNat (List.length X:Int)+1) (by omega) with⟨_,h2⟩|⟨r,h1,_⟩
   ·exact h2
   grind
  rw[e15,aG]
  dsimp only
  have e0:(c:Int)=0→f33 X O=some true:=fun h=>by
   have h:c=0:=by omega
   rw[h,List.take_zero,T3] at hX
   exact CY fX hO.fw hX
  have e1:(c:Int)=(l.length:Int)→f33 X N=some true:=fun h=>by
   have h:c=l.length:=by omega
   rw[h,List.take_length] at hX
   exact CY fX hN.fw (hX.trans (Lh hO hN am7))
  have hlast:(if decide ((c:Int)=(l.length:Int)) then((f33 X N).bind fun y25=>some (!y25)) else(some false))=some false:=by
   grind
  have hcond:(if decide ((c:Int)=(0:Int)) then((f33 X O).bind fun y24=>if !y24 then(some true) else(if decide ((c:Int)=(l.length:Int)) then((f33 X N).bind fun y25=>some (!y25)) else(some false))) else(if decide ((c:Int)=(l.length:Int)) then((f33 X N).bind fun y26=>some (!y26)) else(some false)))=some false:=by
   grind
  rw[hcond,aM,aC (by decide),aG]
  dsimp only
  rw[aY (by omega)]
  exact kk () trivial
 case stop=>
  intro rec _ _
  dsimp only
  rw[aC (by grind)]
  exact⟨_,rfl,rfl⟩
theorem Li(hs:SA w.1.1)(hT:FT w.1.1)(hf:w.2.1.length≤60)(hP:P.length≤4)(hll:l.length≤1000)(hck:CK w P d b a l)(he:f11 w P d b a l=some true)(m:Bool):f10 w P d b a l m=some true:=by
 have hO:=l9 (d:=d) (k:=b) hs hT hf hck.cg hck.er hP hck.vp.i7
 have hN:=l9 (d:=d) (k:=a) hs hT hf hck.cg hck.er hP hck.vp.i7
 unfold f10
 rw[he,aM,aC (by decide),CZ hs hT hf hck.cg hck.er hP,aM,CZ hs hT hf hck.cg hck.er hP,aM,EO hs hT hf hP hll hck hO hN,aG]
end
section
variable{G:In→Prop} {look:Pl→Qy Rs} {O:Pl→An}
theorem mH{ch:List In→Qy (Bool×List In)}{a o:Int}{l:List In}{N:Nat}(hG:∀c:Nat,c<N→((look (a,(o,((c:Int),())))).run O).1.2.2.2.1=true→G ((look (a,(o,((c:Int),())))).run O).1.1)(hch:∀x,G x→((ch (l++[x])).run O).1.1=true→∀y∈((ch (l++[x])).run O).1.2,G y):∀n c,c+n≤N→((gV look ch a o l n c).run O).1.1=true→∀x∈((gV look ch a o l n c).run O).1.2,G x
 |0,_,_,h=>by trivial
 |
  n+1,c,hc,h=>by
  unfold gV at h ⊢
  rw[Qy.run_bind] at h ⊢
  dsimp only at h ⊢
  split at h
  ·rename_i hx
   rw[aA hx]
   rw[Qy.run_bind] at h ⊢
   dsimp only at h ⊢
   split at h
   ·rename_i hy
    rw[aA hy]
    exact hch _ (hG c (by omega) hx) hy
   ·rename_i hy
    rw[aC hy]
    exact mH hG hch n (c+1) (by omega) h
  ·rename_i hx
   rw[aC hx]
   exact mH hG hch n (c+1) (by omega) h
theorem qq{s:cu}{m:DM}{u:Ru}{p:Int}(hG:∀v∈u.2.2.1,∀o:Int,∀c:Nat,c<cn m v.2.2.1→((look (v.2.2.1,(o,((c:Int),())))).run O).1.2.2.2.1=true→G ((look (v.2.2.1,(o,((c:Int),())))).run O).1.1):∀n l,l.length+n=u.2.2.1.length→(∀x∈l,G x)→((cP look s m u p n l).run O).1.1=true→∀x∈((cP look s m u p n l).run O).1.2,G x
 |0,l,_,hl,_=>hl
 |
  n+1,l,hn,hl,h=>by
  unfold cP at h ⊢
  have hv:=dc (t:=aQ) (l:=u.2.2.1) (dE l.length) (show(l.length:Int)<(u.2.2.1.length:Int) by omega)
  refine mH (hG _ hv _) (fun x hx hy=>?_) _ 0 (by omega) h
  refine qq hG n (l++[x]) (by rw[kG,kJ];omega) (fun y hy=>?_) hy<;>grind
theorem mI{ch:Ru→Qy (Bool×List In)}{bd:Ru→List In→In}{R:List Ru}{a:Int}:∀n c,c+n≤R.length→((eK ch bd R a n c).run O).1.2.2.2.1=true→∃u∈R,u.2.1=a∧((ch u).run O).1.1=true∧((eK ch bd R a n c).run O).1.2.2.1=((ch u).run O).1.2
 |0,_,_,h=>by trivial
 |
  n+1,c,hc,h=>by
  unfold eK at h ⊢
  split at h
  ·rename_i hu
   rw[aA hu]
   rw[Qy.run_bind] at h ⊢
   dsimp only at h ⊢
   split at h
   ·rename_i hy
    rw[aA hy]
    exact⟨_,dc (t:=bG) (l:=R) (dE c) (by omega),hu,hy,rfl⟩
   ·rename_i hy
    rw[aC hy]
    exact mI n (c+1) (by omega) h
  ·rename_i hu
   rw[aC hu]
   exact mI n (c+1) (by omega) h
end
section
variable{w:bz} {lo P:Ze} {d k:Int}
theorem OG(hcg:CG w.1.1 lo){s:Sp}{x:In}(h:x∈OC w lo d k s):∃q:Pl,((LL w lo 0 q).run (Oa w d k)).1.2.2.2.1=true∧x=((LL w lo 0 q).run (Oa w d k)).1.1∧0≤q.2.2.1∧q.2.2.1<(cn (dM w) q.1:Int)∧lo.idxOf q.1<lo.idxOf s.2.1:=by
 unfold OC at h
 have e:LL w lo 0=LQ w.1.1 (dM w) lo:=aA rfl
 split at h
 ·rename_i hi
  have hm:aP (.int .i64) .bool s.2.1 (aX (dM w))=true:=by
   simp_all[yb]
  rw[e]
  rw[e,CB hcg.rk.pre] at h
  unfold jD at h
  rw[aA (show aP (.int .i64) .bool ((s.2.1,(s.2.2.1,((0:Int),()))):Pl).1 (aX (dM w))=true from hm)] at h
  rcases r9 (ch:=fun u=>cP (LQ w.1.1 (dM w) lo) w.1.1 (dM w) u ((s.2.1,(s.2.2.1,((0:Int),()))):Pl).2.1 u.2.2.1.length []) (bd:=fun u l=>ja w.1.1 u ((s.2.1,(s.2.2.1,((0:Int),()))):Pl).2.1 l) (R:=w.1.1.2.2.2.1) (a:=((s.2.1,(s.2.2.1,((0:Int),()))):Pl).1) (O:=Oa w d k) w.1.1.2.2.2.1.length 0 with fT|hz
  ·obtain⟨u,hu,hua,hc,hfr⟩:=mI _ 0 (by omega) fT
   rw[hfr] at h
   exact qq (G:=fun x=>∃q:Pl,((LQ w.1.1 (dM w) lo q).run (Oa w d k)).1.2.2.2.1=true∧x=((LQ w.1.1 (dM w) lo q).run (Oa w d k)).1.1∧0≤q.2.2.1∧q.2.2.1<(cn (dM w) q.1:Int)∧lo.idxOf q.1<lo.idxOf s.2.1) (fun v hv o c hcN hk=>⟨_,hk,rfl,dE c,by grind,by
    have:=hcg.rk.pre u hu v hv
    grind⟩) _ [] (by simp) (fun x hx=>by cases hx) hc x h
  ·rw[hz] at h
   cases h
 grind
theorem HC{a p:Int}(i:Nat)(h:(Fv (Oa w d k) (LL w lo 0) true (dM w) a p d (i:Int)).1=true):∀(n c:Nat),c≤i→i<c+n→(Fv (Oa w d k) (LL w lo 0) true (dM w) a p d (i:Int)).2∈((uK (LL w lo 0) true (dM w) a p d n c).run (Oa w d k)).1
 |0,_,_,_=>by omega
 |
  n+1,c,h1,h2=>by
  rw[qm]
  dsimp only
  by_cases e:c=i
  ·grind
  ·have ih:=HC i h n (c+1) (by omega) (by omega)
   split
   ·exact dj _ ih
   ·exact ih
theorem HD{p:Int}(a i:Nat)(h:(Fv (Oa w d k) (LL w lo 0) true (dM w) (a:Int) p d (i:Int)).1=true)(hi:i<cn (dM w) (a:Int)):∀(n c:Nat),c≤a→a<c+n→(Fv (Oa w d k) (LL w lo 0) true (dM w) (a:Int) p d (i:Int)).2∈((uL (LL w lo 0) true (dM w) p d n c).run (Oa w d k)).1
 |0,_,_,_=>by omega
 |
  n+1,c,h1,h2=>by
  rw[mE]
  dsimp only
  by_cases e:c=a
  ·simp_all[HC]
  ·exact kK _ (HD a i h hi n (c+1) (by omega) (by omega))
theorem OH(hcg:CG w.1.1 lo)(hvp:VP P d){s:Sp}{x:In}(h:x∈OC w lo d k s):lo.idxOf x.1<lo.idxOf s.2.1∧(x.2.1∈P→x∈CL w lo P d k):=by
 obtain⟨q,h1,h2,h3,h4,h5⟩:=OG hcg h
 have hm0:aP (.int .i64) .bool q.1 (aX (dM w))=true→q.2.2.1=0:=fun hm=>by
  unfold cn at h4
  grind
 have hpl:=SY hcg hm0 h1
 rw[←h2] at hpl
 have e1:x.1=q.1:=(Prod.mk.inj hpl).1
 have e2:x.2.1=q.2.1:=(Prod.mk.inj (Prod.mk.inj hpl).2).1
 refine⟨by grind,fun hp=>?_⟩
 have hql:q.1∈lo:=List.idxOf_lt_length_iff.1 (mK h5 List.idxOf_le_length)
 obtain⟨r0,r1⟩:=(hcg.rk.all _).1 hql
 obtain⟨p0,p1⟩:=hvp.Cq _ hp
 rw[e2] at p0 p1 hp
 obtain⟨d0,d1⟩:=hvp.day
 have ea:((q.1.toNat:Nat):Int)=q.1:=by omega
 have ei:((q.2.2.1.toNat:Nat):Int)=q.2.2.1:=by omega
 have hq:((q.1,(q.2.1,(q.2.2.1,()))):Pl)=q:=rfl
 have hlk:uJ true (dM w) q.1 q.2.1 d q.2.2.1=true:=by
  unfold uJ yb
  grind
 have hFv:Fv (Oa w d k) (LL w lo 0) true (dM w) q.1 q.2.1 d q.2.2.1=(true,x):=by
  simp_all[Fv]
 have key:=HD (w:=w) (lo:=lo) (d:=d) (k:=k) (p:=q.2.1) q.1.toNat q.2.2.1.toNat (by grind) (by grind) w.1.1.2.2.1.length 0 (gY _) (by omega)
 rw[ea,ei,hFv] at key
 exact List.mem_flatMap.2 ⟨q.2.1,hp,key⟩
end
section
variable{w:bz} {P:Ze} {l:List Sp} {d b a:Int}
end
section
variable{w:bz} {o:Ze}
def od(o:Ze)(a:Int):Int:=nth (.int .i64) o a
theorem EP(ho:OV w o){a:Int}(h:a∈w.1.2.1):od o a=(w.1.2.1.idxOf a:Int):=by
 have h2:=List.idxOf_lt_length_iff.2 h
 have:=ho.2 _ h2
 rw[List.getElem_idxOf] at this
 trivial
def sc(g:Int)(o:Ze)(x y:Sp):Int:=if g*mF (od o x.2.1) (od o y.2.1)≠0 then g*mF (od o x.2.1) (od o y.2.1) else if mF x.2.2.1 y.2.2.1≠0 then mF x.2.2.1 y.2.2.1 else mF x.2.2.2.1 y.2.2.2.1
theorem vV{g:Int}(hg:g=1∨g= -1)(x y:Sp):sc g o x y<0↔g*od o x.2.1<g*od o y.2.1∨od o x.2.1=od o y.2.1∧(x.2.2.1<y.2.2.1∨x.2.2.1=y.2.2.1∧x.2.2.2.1<y.2.2.2.1):=by
 unfold sc mF
 grind
def Rg(o:Ze)(x:Sp):Prop:=0≤x.2.1∧x.2.1<(o.length:Int)
theorem C0{g:Int}(hg:g=1∨g= -1)(m1 m2:Option (List (Pl×In)))(x y:Sp):(Rg o x∧Rg o y∧gk x y g o m1 m2=some (sc g o x y))∨(¬(Rg o x∧Rg o y)∧gk x y g o m1 m2=none):=by
 unfold gk Rg
 by_cases h1:0≤x.2.1
 ·by_cases h2:x.2.1<(o.length:Int)
  ·by_cases h3:0≤y.2.1
   ·by_cases h4:y.2.1<(o.length:Int)
    ·refine Or.inl ⟨⟨h1,h2⟩,⟨h3,h4⟩,?_⟩
     have hw:∀u v:Int,bq (g*mF u v)=g*mF u v:=fun u v=>by
      unfold mF
      rcases hg with rfl|rfl<;>(repeat' split)<;>rfl
     rw[aA h1,aA h2,aA h3,aA h4,nR,aM,nR,aM,nR,aM,hw,or3]
     rfl
    grind
   grind
  grind
 grind
theorem yN(hcg:CG w.1.1 w.1.2.1)(ho:OV w o){g:Int}(hg:g=1∨g= -1)(m1 m2:Option (List (Pl×In))){k:Int}{A:List In}(hA:(A.map bH).Nodup)(hr:∀x∈A,0≤x.1∧x.1<(w.1.1.2.2.1.length:Int)):
 ∃ys,xN g o m1 m2 ((A.map bH).map fun p=>((k,p):Sp))=some ys∧ys.Perm ((A.map bH).map fun p=>((k,p):Sp))∧ys.Pairwise fun x y=>¬sc g o y x<0:=by
 have hrg:∀x∈(A.map bH).map fun p=>((k,p):Sp),Rg o x∧x.2.1∈w.1.2.1:=fun x hx=>by
  obtain⟨p,hp,rfl⟩:=List.mem_map.1 hx
  obtain⟨y,hy,rfl⟩:=List.mem_map.1 hp
  obtain⟨h1,h2⟩:=hr y hy
  exact⟨⟨h1,by rw[ho.1];exact h2⟩,(hcg.rk.all _).2 ⟨h1,h2⟩⟩
 have gd:∀x y,(gk x y g o m1 m2).getD 0<0↔Rg o x∧Rg o y∧sc g o x y<0:=fun x y=>by
  rcases C0 hg m1 m2 x y with⟨h1,h2,e⟩|⟨h,e⟩
  ·rw[e]
   exact⟨fun h=>⟨h1,h2,h⟩,fun h=>h.2.2⟩
  ·rw[e]
   exact⟨fun h'=>absurd h' (by decide),fun h'=>absurd ⟨h'.1,h'.2.1⟩ h⟩
 obtain⟨e,hch⟩:=Ds (c:=fun x y=>gk x y g o m1 m2) (fun x=>by
  show¬(gk x x g o m1 m2).getD 0<0
  rw[gd,vV hg];omega) (fun x y z=>by
  show(gk x y g o m1 m2).getD 0<0→(gk y z g o m1 m2).getD 0<0→(gk x z g o m1 m2).getD 0<0
  rw[gd,gd,gd,vV hg,vV hg,vV hg]
  grind) (xs:=(A.map bH).map fun p=>((k,p):Sp)) (fun x hx y hy=>by
  rcases C0 hg m1 m2 x y with⟨_,_,e⟩|⟨h,_⟩
  ·exact⟨_,e⟩
  ·exact absurd ⟨(hrg x hx).1,(hrg y hy).1⟩ h) (by
  refine(List.pairwise_iff_forall_sublist.2 fun{x y} hs=>?_)
  show(gk x y g o m1 m2).getD 0<0∨(gk y x g o m1 m2).getD 0<0
  have hx:=hs.subset (cm ..)
  have hy:=hs.subset (dj _ (cm ..))
  have hne:x≠y:=fun e=>by
   grind [lq]
  rw[gd,gd,vV hg,vV hg]
  obtain⟨r1,l1⟩:=hrg x hx
  obtain⟨r2,l2⟩:=hrg y hy
  by_cases ho2:od o x.2.1=od o y.2.1
  ·have hsx:x.2.1=y.2.1:=by
    rw[EP ho l1,EP ho l2] at ho2
    have h2:w.1.2.1.idxOf x.2.1=w.1.2.1.idxOf y.2.1:=by omega
    have h3:=List.getElem_idxOf (List.idxOf_lt_length_iff.2 l1)
    grind
   grind
  grind)
 refine⟨kT (HS fun x y=>gk x y g o m1 m2) ((A.map bH).map fun p=>((k,p):Sp)),?_,dn,?_⟩
 ·unfold xN GJ
  grind
 ·refine(List.pairwise_iff_forall_sublist.2 fun{x y} hs=>?_)
  have hx:=dn.mem_iff.1 (hs.subset (cm ..))
  have hy:=dn.mem_iff.1 (hs.subset (dj _ (cm ..)))
  have h1:=List.pairwise_iff_forall_sublist.1 (wK hch) hs
  have h1:¬(gk y x g o m1 m2).getD 0<0:=of_decide_eq_false h1
  grind
end
section
variable{w:bz} {P:Ze} {d b a:Int}
theorem OI(hs:SA w.1.1)(hT:FT w.1.1)(hf:w.2.1.length≤60)(hP:P.length≤4)(d b a:Int):
 ((∀b a,fb w P d b a=none∧iP w P d b a=some false)∧f9 w P d b a=some [])∨
 (fb w P d b a≠none∧CG w.1.1 w.1.2.1∧f44 w.1=some 0∧VP P d∧∃o L1 L2,OV w o∧f9 w P d b a=some (L1++L2)∧L1.Perm (((jE (CL w w.1.2.1 P d a) (CL w w.1.2.1 P d b)).map bH).map fun p=>(((1:Int),p):Sp))∧L2.Perm (((jE (CL w w.1.2.1 P d b) (CL w w.1.2.1 P d a)).map bH).map fun p=>(((2:Int),p):Sp))∧L1.Pairwise fun x y=>¬sc 1 o y x<0):=by
 have hM:aH=140737488355328:=rfl
 unfold f9 Nx Ny
 rcases pt hs hT hf hP d b a with h0|⟨e2,hcg,er,o,ix,fo,se,rs,e1,hov,hvp,_,_⟩
 ·obtain⟨e1,e2⟩:=h0 b a
  rw[e1,e2]
  exact Or.inl ⟨h0,rfl⟩
 ·have hO:=l9 (d:=d) (k:=b) hs hT hf hcg er hP hvp.i7
  have hN:=l9 (d:=d) (k:=a) hs hT hf hcg er hP hvp.i7
  refine Or.inr ⟨by grind,hcg,er,hvp,?_⟩
  rw[e1,e2,aM,nP hcg hvp.i7,nP hcg hvp.i7]
  have hOr:=fun(x:In)(hx:x∈CL w w.1.2.1 P d b)=>CP hcg x hx
  have hNr:=fun(x:In)(hx:x∈CL w w.1.2.1 P d a)=>CP hcg x hx
  generalize CL w w.1.2.1 P d b=O at hO hOr ⊢
  generalize CL w w.1.2.1 P d a=N at hN hNr ⊢
  dsimp only
  rw[aC (by decide)]
  obtain⟨ST,es,hS⟩:=gH hO hN
  obtain⟨FR,ef,hF⟩:=gH hN hO
  have cS:=(hO.jE N).perm hS
  have cF:=(hN.jE O).perm hF
  have lS:=cS.len
  have lF:=cF.len
  unfold nK nJ
  rw[ef,aM,aM]
  dsimp only
  have e6:xO (Int.toNat (List.length FR:Int)+1) (FR,(List.length FR:Int),0,o,w,some ix,d,a,true,dM w,(),some (O.map pr),some (N.map pr),rs,fo,se,([]:List Sp))=some (.brk (o,w,some ix,d,a,true,dM w,(),some (O.map pr),some (N.map pr),rs,fo,se,(FR.map bH).map fun p=>(((1:Int),p):Sp))):=by
   obtain⟨r,e,hr⟩:=bX (L:=xO) rfl (fun r=>r= .brk (o,w,some ix,d,a,true,dM w,(),some (O.map pr),some (N.map pr),rs,fo,se,(FR.map bH).map fun p=>(((1:Int),p):Sp))) FR.length (fun c(s:List Sp)=>(FR,(FR.length:Int),(c:Int),o,w,some ix,d,a,true,dM w,(),some (O.map pr),some (N.map pr),rs,fo,se,s)) (fun c s=>s=((FR.take c).map bH).map fun p=>(((1:Int),p):Sp)) (by
    intro rec c s hc hs2 kk
    have hsl:s.length≤100:=by rw[hs2,jo,jo,kI];omega
    dsimp only
    rw[cz (by omega),dV c,aA (by omega),cK (t:=bp) hc,aY (by omega)]
    show W (Option.bind (some (((1:Int),bH FR[c]):Sp)) _) _
    rw[aM,aA (by simp only[kJ];omega)]
    refine kk _ ?_
    rw[List.take_succ_eq_append_getElem hc,gi,gi,hs2]
    rfl) (by
    intro rec s hs2
    dsimp only
    rw[aC (by grind)]
    refine⟨_,rfl,?_⟩<;>grind) (Int.toNat (List.length FR:Int)+1) 0 [] (by omega) (by omega) rfl
   grind
  rw[e6,aG]
  dsimp only
  rw[es,aM,aM]
  dsimp only
  generalize hL1:((FR.map bH).map fun p=>(((1:Int),p):Sp))=K1
  have e11:tj (Int.toNat (List.length ST:Int)+1) (ST,(List.length ST:Int),0,o,w,some ix,d,a,true,dM w,(),some (O.map pr),some (N.map pr),rs,fo,se,K1,([]:List Sp))=some (.brk (o,w,some ix,d,a,true,dM w,(),some (O.map pr),some (N.map pr),rs,fo,se,K1,(ST.map bH).map fun p=>(((2:Int),p):Sp))):=by
   obtain⟨r,e,hr⟩:=bX (L:=tj) rfl (fun r=>r= .brk (o,w,some ix,d,a,true,dM w,(),some (O.map pr),some (N.map pr),rs,fo,se,K1,(ST.map bH).map fun p=>(((2:Int),p):Sp))) ST.length (fun c(s:List Sp)=>(ST,(ST.length:Int),(c:Int),o,w,some ix,d,a,true,dM w,(),some (O.map pr),some (N.map pr),rs,fo,se,K1,s)) (fun c s=>s=((ST.take c).map bH).map fun p=>(((2:Int),p):Sp)) (by
    intro rec c s hc hs2 kk
    have hsl:s.length≤100:=by rw[hs2,jo,jo,kI];omega
    dsimp only
    rw[cz (by omega),dV c,aA (by omega),cK (t:=bp) hc,aY (by omega)]
    show W (Option.bind (some (((2:Int),bH ST[c]):Sp)) _) _
    rw[aM,aA (by simp only[kJ];omega)]
    refine kk _ ?_
    rw[List.take_succ_eq_append_getElem hc,gi,gi,hs2]
    rfl) (by
    intro rec s hs2
    dsimp only
    rw[aC (by grind)]
    refine⟨_,rfl,?_⟩<;>grind) (Int.toNat (List.length ST:Int)+1) 0 [] (by omega) (by omega) rfl
   grind
  rw[e11,aG]
  dsimp only
  obtain⟨L1,s1,p1,w1⟩:=yN (k:=1) (A:=FR) hcg hov (Or.inl rfl) (some (O.map pr)) (some (N.map pr)) cF.nd fun x hx=>by
   grind [fD]
  obtain⟨L2,s2,p2,_⟩:=yN (k:=2) (A:=ST) hcg hov (Or.inr rfl) (some (O.map pr)) (some (N.map pr)) cS.nd fun x hx=>by
   grind [fD]
  have l1:=p1.length_eq
  have l2:=p2.length_eq
  rw[jo,jo] at l1 l2
  rw[←hL1,s1,aM,s2,aM,aA (by omega)]
  exact⟨o,L1,L2,hov,rfl,p1.trans ((hF.map bH).map _),p2.trans ((hS.map bH).map _),w1⟩
end
theorem Xs{s:cu}(h:wf iN s):SA s where
 ss:=
  {oM:=h.1.2.1
   nM:=h.2.1.2.1
   dq:=h.2.2.1.2.1
   rules:=h.2.2.2.1.2.1
   i6:=h.2.2.2.2.1.2.1
   fp:=h.2.2.2.2.2.1.2.1
   fields:=fun x hx=>⟨(h.2.2.1.2.2 x hx).2.2.2.2.1.2.1,fun f hf=>((h.2.2.1.2.2 x hx).2.2.2.2.1.2.2 f hf).2.1.2.2.2.2.2.1.2.1⟩
   Ca:=fun x hx=>⟨(h.2.2.1.2.2 x hx).2.2.2.2.2.1.2.1,fun d hd=>⟨((h.2.2.1.2.2 x hx).2.2.2.2.2.1.2.2 d hd).1.2.1,((h.2.2.1.2.2 x hx).2.2.2.2.2.1.2.2 d hd).2.2.1.2.1⟩⟩
   rl:=fun r hr=>⟨(h.2.2.2.1.2.2 r hr).2.2.1.2.1,(h.2.2.2.1.2.2 r hr).2.2.2.1.2.1,(h.2.2.2.1.2.2 r hr).2.2.2.2.1.2.1⟩
   mv:=fun c hc=>(h.2.2.2.2.1.2.2 c hc).2.2.2.2.1.2.1
   may:=fun p hp=>(h.2.2.2.2.2.1.2.2 p hp).2.1.2.1}
 bs:=
  {oM:=h.1.1
   nM:=h.2.1.1
   dq:=h.2.2.1.1
   rules:=h.2.2.2.1.1
   i6:=h.2.2.2.2.1.1
   fp:=h.2.2.2.2.2.1.1
   sch:=fun x hx=>⟨(h.2.2.1.2.2 x hx).2.2.2.2.1.1,(h.2.2.1.2.2 x hx).2.2.2.2.2.1.1,fun d hd=>((h.2.2.1.2.2 x hx).2.2.2.2.2.1.2.2 d hd).1.1⟩
   rl:=fun r hr=>⟨(h.2.2.2.1.2.2 r hr).2.2.1.1,(h.2.2.2.1.2.2 r hr).2.2.2.1.1,(h.2.2.2.1.2.2 r hr).2.2.2.2.1.1⟩
   cv:=fun c hc=>(h.2.2.2.2.1.2.2 c hc).2.2.2.2.1.1
   pu:=fun p hp=>(h.2.2.2.2.2.1.2.2 p hp).2.1.1}
 sw:=
  {nM:=h.2.1.2.1
   dq:=h.2.2.1.2.1
   rules:=h.2.2.2.1.2.1
   fp:=h.2.2.2.2.2.1.2.1
   nb:=fun x hx=>⟨(h.2.2.1.2.2 x hx).2.2.2.2.1.2.1,fun f hf=>((h.2.2.1.2.2 x hx).2.2.2.2.1.2.2 f hf).2.1.2.2.2.2.2.1.2.1⟩
   rl:=fun r hr=>⟨(h.2.2.2.1.2.2 r hr).2.2.1.2.1,(h.2.2.2.1.2.2 r hr).2.2.2.1.2.1,(h.2.2.2.1.2.2 r hr).2.2.2.2.1.1⟩
   may:=fun p hp=>(h.2.2.2.2.2.1.2.2 p hp).2.1.2.1}
theorem ER(A B:List Sp)(o:Ow):nI (A++B) o=nI A o+nI B o:=by
 grind [nI]
theorem ES(A B:List Sp)(o:Ow):nS (A++B) o=nS A o+nS B o:=by
 grind [nS]
theorem OJ(s:Sp)(o:Ow):nI [s] o -nS [s] o=if o=ow s.2 then(if s.1=1 then 1 else-1) else 0:=by
 grind [nI,nS]
theorem S4{b:Ow→Bool}:∀{l:List Sp}{f:Ow→Int},(∀n,n<l.length→∀o,b o=true→1≤f o+nI (l.take (n+1)) o -nS (l.take (n+1)) o)→kp b f l=true
 |[],_,_=>rfl
 |
  s::l,f,h=>by
  obtain⟨v,hv⟩:∃v,v=(if s.1=1 then f (ow s.2)+1 else f (ow s.2) -1):=⟨_,rfl⟩
  have hk:kp b f (s::l)=if(b (ow s.2)&&decide (yL f (ow s.2) v (ow s.2)<1))=true then false else kp b (yL f (ow s.2) v) l:=by rw[hv];rfl
  have hu:∀o,yL f (ow s.2) v o=f o+(nI [s] o -nS [s] o):=fun o=>by
   rw[OJ,hv]
   unfold yL
   grind
  have hn:¬(b (ow s.2)&&decide (yL f (ow s.2) v (ow s.2)<1))=true:=fun hb=>by
   rw[bj,j5,hu] at hb
   have:=h 0 (by grind) _ hb.1
   grind
  rw[hk,aC hn]
  refine S4 fun n hn o ho=>?_
  have:=h (n+1) (by grind) o ho
  have et:(s::l).take (n+1+1)= [s]++l.take (n+1):=rfl
  rw[et,ER,ES] at this
  grind
section
variable{w:bz} {P:Ze} {d b a:Int}
theorem OL(hs:SA w.1.1)(hT:FT w.1.1)(hf:w.2.1.length≤60)(hP:P.length≤4)(fT:fb w P d b a≠none)(hcg:CG w.1.1 w.1.2.1)(er:f44 w.1=some 0)(hvp:VP P d){o:Ze}{L1 L2:List Sp}(ho:OV w o)
 (p1:L1.Perm (((jE (CL w w.1.2.1 P d a) (CL w w.1.2.1 P d b)).map bH).map fun p=>(((1:Int),p):Sp))) (p2:L2.Perm (((jE (CL w w.1.2.1 P d b) (CL w w.1.2.1 P d a)).map bH).map fun p=>(((2:Int),p):Sp))) (w1:L1.Pairwise fun x y=>¬sc 1 o y x<0):CK w P d b a (L1++L2):=by
 have hO:=l9 (d:=d) (k:=b) hs hT hf hcg er hP hvp.i7
 have hN:=l9 (d:=d) (k:=a) hs hT hf hcg er hP hvp.i7
 have hNr:=fun(x:In)(hx:x∈CL w w.1.2.1 P d a)=>CP hcg x hx
 have hfrom:=fun(s:Sp)(x:In)(h:x∈OC w w.1.2.1 d a s)=>(OH hcg hvp h).1
 have am7:(L1++L2).Perm (KK (CL w w.1.2.1 P d b) (CL w w.1.2.1 P d a)):=by
  grind [KK]
 have k1:∀s∈L1,s.1=1:=fun s h=>by
  grind
 have k2:∀s∈L2,s.1=2:=fun s h=>by
  grind
 refine⟨fT,hcg,er,hvp,am7,?_,?_⟩
 ·generalize CL w w.1.2.1 P d b=O at*
  generalize CL w w.1.2.1 P d a=N at*
  have hnd:(L1++L2).Nodup:=am7.nodup_iff.2 (by
   rw[KK,j7]
   refine⟨lq (hO.jE _).nd,lq (hN.jE _).nd,fun x hx y hy e=>?_⟩<;>grind)
  refine S4 fun n hn q hq=>?_
  unfold both at hq
  rw[bj,j5,j5] at hq
  have hx:=Lg hO hN hnd (fun s h=>am7.mem_iff.1 h) q
  rw[so (Lh hO hN am7),ER,ES] at hx
  have z1:∀m,nS (L1.take m) q=0:=fun m=>by
   grind [nS,List.filter_eq_nil_iff]
  have z2:∀m,nI (L2.take m) q=0:=fun m=>by
   unfold nI
   grind [List.filter_eq_nil_iff]
  have z3:nS (L2.take (n+1 -L1.length)) q≤nS L2 q:=by
   grind [List.take_sublist,nS]
  have z4:∀m,0≤nI (L1.take m) q:=fun m=>dE _
  have y1:=z1 L1.length
  have y2:=z2 L2.length
  rw[List.take_length] at y1 y2
  rw[List.take_append,ER,ES,z1,z2]
  by_cases h:n+1≤L1.length
  ·rw[show n+1 -L1.length=0 by omega,List.take_zero]
   have:nS ([]:List Sp) q=0:=rfl
   grind
  grind [gm]
 ·intro n _ hn h1 x hx hxF
  have hn1:n<L1.length:=by
   grind
  rw[List.getElem_append_left hn1] at hx
  have hlt:=hfrom _ _ hx
  have hm:(((1:Int),bH x):Sp)∈L1:=p1.mem_iff.2 (List.mem_map.2 ⟨bH x,hxF,rfl⟩)
  obtain⟨j,hj,ej⟩:=jn hm
  have hlo:L1[n].2.1∈w.1.2.1:=by
   obtain⟨p,hp,e⟩:=List.mem_map.1 (p1.mem_iff.1 (eT hn1))
   obtain⟨y,hy,e2⟩:=List.mem_map.1 hp
   obtain⟨g1,g2,_⟩:=hNr y (fD.1 hy).1
   rw[←e,←e2]
   exact(hcg.rk.all _).2 ⟨g1,g2⟩
  have hxlo:x.1∈w.1.2.1:=List.idxOf_lt_length_iff.1 (mK hlt List.idxOf_le_length)
  have hjn:j<n:=by
   refine Classical.byContradiction fun h=>?_
   by_cases e:j=n
   ·subst e
    rw[ej] at hlt
    exact Nat.lt_irrefl _ hlt
   ·have:=List.pairwise_iff_getElem.1 w1 n j hn1 hj (by omega)
    rw[ej] at this
    refine this ((vV (Or.inl rfl) _ _).2 (Or.inl ?_))
    show(1:Int)*od o x.1<1*od o L1[n].2.1
    grind [EP]
  rw[List.take_append]
  refine j4 _ (List.mem_iff_getElem.2 ⟨j,by rw[kI];omega,?_⟩)<;>grind
end
theorem C1(w:bz)(hs:SA w.1.1)(P:Ze)(d b a:Int):f3 w P d b a=some true:=by
 unfold f3
 rw[SN,aM,aC (by decide)]
 obtain⟨r,e,hr⟩:=Om w hs.ss
 unfold NY
 rw[e,aM]
 cases r with
 |false=>rfl
 |
  true=>
  obtain⟨hT,hf⟩:=hr rfl
  rw[aA rfl]
  by_cases h4:(P.length:Int)≤4
  ·have hP:P.length≤4:=by omega
   rw[cz h4,aM,aM,aC (by decide)]
   rcases OI hs hT hf hP d b a with⟨h0,ep⟩|⟨fT,hcg,er,hvp,o,L1,L2,ho,ep,p1,p2,w1⟩
   ·rw[ep,aM]
    obtain⟨r,ec,hc⟩:=Lb (l:=[]) hs hT hf hP (by decide) d b a
    have hr:r=false:=by
     cases r with
     |false=>rfl
     |true=>exact absurd (h0 b a).1 (hc.1 rfl).ok
    subst hr
    unfold f10 f15 GO GP Ck Hd He
    rw[ec,(h0 b a).1,(h0 b a).2,(h0 b b).1,(h0 b b).2]
    rfl
   ·rw[ep,aM]
    have hck:=OL hs hT hf hP fT hcg er hvp ho p1 p2 w1
    have hO:=l9 (d:=d) (k:=b) hs hT hf hcg er hP hvp.i7
    have hN:=l9 (d:=d) (k:=a) hs hT hf hcg er hP hvp.i7
    have l1:=p1.length_eq
    have l2:=p2.length_eq
    have l3:=(hO.jE (CL w w.1.2.1 P d a)).len
    have l4:=(hN.jE (CL w w.1.2.1 P d b)).len
    rw[jo,jo] at l1 l2
    have hl:(L1++L2).length≤1000:=by rw[kG];omega
    obtain⟨r,ec,hc⟩:=Lb (l:=L1++L2) hs hT hf hP hl d b a
    rw[hc.2 hck] at ec
    rw[Li hs hT hf hP hl hck ec]
    rfl
  ·rw[aC (by simpa using h4)]
   rfl
theorem pl3(a0:bz)(a1:Ze)(a2 a3 a4:Int)(af0:wf fI a0)(_af1:wf (.slice 8 (.int .i64)) a1)(_af2:wf (.int .i64) a2)(_af3:wf (.int .i64) a3)(_af4:wf (.int .i64) a4):f3 a0 a1 a2 a3 a4=some true:=
 C1 a0 (Xs af0.1.1) a1 a2 a3 a4
end Go.Proofs.YtpmlkhjpbjnagaaGreat
