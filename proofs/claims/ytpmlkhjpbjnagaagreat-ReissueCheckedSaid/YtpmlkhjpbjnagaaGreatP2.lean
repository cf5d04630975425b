/- part -/
import Derived.Test.YtpmlkhjpbjnagaaGreatP1
import Derived.Test.YtpmlkhjpbjnagaaGreatUL
import Derived.Test.YtpmlkhjpbjnagaaGreatA5
import Derived.Test.YtpmlkhjpbjnagaaGreatFB
import Derived.Test.YtpmlkhjpbjnagaaGreatF8
import Derived.Test.YtpmlkhjpbjnagaaGreatF9
import Derived.Test.YtpmlkhjpbjnagaaGreatFA
import Derived.Test.YtpmlkhjpbjnagaaGreatS2
noncomputable section
namespace Go.Proofs.YtpmlkhjpbjnagaaGreat
open Go.Ax
theorem Eh{t:dF}{n:Int}(h:f260 t n=some true):t.2.2.2.2.1= -1:=by
 unfold f260 at h
 grind
theorem Ei{t:dF}{n:Int}(h:f261 t n=some true):t.2.2.2.2.1= -1:=by
 unfold f261 at h
 grind
theorem Ej{t:dF}{n:Int}(h:f262 t n=some true):t.2.2.2.2.1= -1:=by
 unfold f262 at h
 grind
theorem idB{x:Zm}{b:Bool}(h:(Option.bind x fun y=>some y)=some b):x=some b:=by
 grind
theorem IK{c:dw}{t:dF}(h:f168 c t=some true):t.2.2.2.2.1<(c.1.2.1.length:Int):=by
 have neg:t.2.2.2.2.1= -1→t.2.2.2.2.1<(c.1.2.1.length:Int):=fun e=>by omega
 by_cases e1:t.1=1
 ·exact(tS h e1).2
 ·unfold f168 at h
  by_cases h1:t.1<1
  ·rw[cz h1] at h;cases h
  ·by_cases h2:(4:Int)<t.1
   ·rw[aC (by grind),cD h2] at h;cases h
   ·rw[aC (by grind),dp h2,aM,aC (by decide),aG] at h
    dsimp only at h
    rw[aA (by omega),aA (by omega),aC (by omega),aC e1] at h
    by_cases e2:t.1=2
    ·rw[aA e2] at h;exact neg (Eh (idB h))
    ·rw[aC e2] at h
     by_cases e3:t.1=3
     ·rw[aA e3] at h;exact neg (Ei (idB h))
     ·rw[aC e3,aA (by omega)] at h;exact neg (Ej (idB h))
theorem Ek(c:dw)(hN:NB c.1)(r:pD):∃b y,f254 c r=some (b,y)∧(b=true→y.2.2.2.2.1<(c.1.2.1.length:Int)):=by
 unfold f254
 rcases kY c r.2.2.1 r.2.2.2.1 with⟨hi,e⟩|⟨_,y,e⟩
 ·rw[e,aM]
  dsimp only
  rw[aC (by decide)]
  have hm:=hi.mem
  obtain⟨q,hq⟩:=pL c (nth bO (cu c.1 r.2.2.1) r.2.2.2.1).2.1 ((hN _ hm.1).2 _ hm.2)
  rw[hq,aM]
  cases q with
  |false=>grind
  |
   true=>
   rw[aC (by decide)]
   have hu:=IK hq
   by_cases h0:0≤(nth bO (cu c.1 r.2.2.1) r.2.2.2.1).2.1.2.2.2.2.1
   ·rw[cz h0,aA h0,aA hu]
    obtain⟨z,hz⟩:=pM c (nth aU c.1.2.1 (nth bO (cu c.1 r.2.2.1) r.2.2.2.1).2.1.2.2.2.2.1)
    grind
   grind
 grind
theorem J8(s:cp)(hN:NB s)(r:pD)(n:Int):∃p,f219 s r n=some p:=by
 unfold f219
 obtain⟨b,y,e,hu⟩:=Ek (s,()) hN r
 rw[e,aM]
 dsimp only
 cases b with
 |false=>exact⟨_,rfl⟩
 |
  true=>
  rw[aC (by decide)]
  by_cases h1:n<0
  ·rw[cz h1];exact⟨_,rfl⟩
  ·rw[aC (show¬decide (n<(0:Int))=true by grind)]
   by_cases h2:(1048576:Int)<n
   ·rw[cD h2];exact⟨_,rfl⟩
   ·rw[dp h2,aM,aC (by decide),aG]
    dsimp only
    by_cases h0:0≤y.2.2.2.2.1
    ·simp_all
    ·rw[aC (show¬decide ((0:Int)≤y.2.2.2.2.1)=true by grind)];grind
theorem mj(a b c:Int):∃r,f220 a b c=some r:=by
 unfold f220
 repeat' (first|exact⟨_,rfl⟩|split)
def FV(s:cp)(PS:Zf)(x:l7)(a:Int):Prop:=x.2.2.2.1.length=(cu s a).length∧∀v∈x.2.2.2.1,v∈PS
structure LI(s:cp)(PS:Zf)(u:dn)(l:Zl):Prop where
 len:l.length≤u.2.2.1.length
 ok:∀x:Int,0≤x→x<(l.length:Int)→FV s PS (nth bp l x) (nth aP u.2.2.1 x).2.2.1
theorem LI.nil(s:cp)(PS:Zf)(u:dn):LI s PS u []:=⟨ik _,fun x h0 h1=>by grind⟩
theorem LI.push{s:cp}{PS:Zf}{u:dn}{l:Zl}(h:LI s PS u l){x:l7}(hl:l.length<u.2.2.1.length)(hx:FV s PS x (nth aP u.2.2.1 (l.length:Int)).2.2.1):LI s PS u (l++[x]):=by
 refine⟨by grind,fun j h0 h1=>?_⟩
 rw[mb,oA] at h1
 have e:j=(j.toNat:Int):=by omega
 by_cases hj:j<(l.length:Int)
 ·have h2:=h.ok j h0 hj
  rw[e,cJ (t:=bp) (by grind),List.getElem_append_left (by omega)]
  rw[e,cJ (t:=bp) (by omega)] at h2
  exact h2
 ·have ej:j.toNat=l.length:=by omega
  have ej':j=(l.length:Int):=by omega
  rw[ej',cJ (t:=bp) (by grind),List.getElem_append_right (dN _)]
  grind
abbrev cR(s:cp)(u:dn):fF:=((s,()),(u,()))
theorem yi{s:cp}{PS:Zf}{u:dn}{l:Zl}(hL:LI s PS u l){t:gL}{n:Int}(hn:n≤(l.length:Int))(h:S1 (cR s u) t n):
 0≤t.2.2.1∧t.2.2.1<(l.length:Int)∧0≤t.2.2.2.1∧t.2.2.2.1<((nth bp l t.2.2.1).2.2.2.1.length:Int)∧nth (.int .i64) (nth bp l t.2.2.1).2.2.2.1 t.2.2.2.1∈PS:=by
 have hv:t.2.2.1<(l.length:Int):=Int.lt_of_lt_of_le h.v1 hn
 obtain⟨h1,h2⟩:=hL.ok _ h.v0 hv
 have hb:=h.f.b1
 have hb:t.2.2.2.1<((nth bp l t.2.2.1).2.2.2.1.length:Int):=by grind
 exact⟨h.v0,hv,h.f.b0,hb,h2 _ (dB (t:=.int .i64) h.f.b0 hb)⟩
theorem NQ{s:cp}{PS:Zf}{u:dn}{l:Zl}(hL:LI s PS u l)(hl:l.length=u.2.2.1.length){t:gL}(ht:ya (cR s u) t):
 ∃v,f166 t l=some v∧(v∈PS∨t.2.2.1= -1∧v=t.2.2.2.2.1):=by
 unfold f166
 by_cases h:t.2.2.1= -1
 ·grind
 ·rcases ht with hi|hi
  ·obtain⟨a1,a2,a3,a4,a5⟩:=yi hL (by grind) hi
   grind
  grind
theorem Cb(day:Int){L:Zz}:∀(l:Zz)(s:gF×Bool),(∀f∈l,f∈L)→(s.2=true→s.1∈L)→((l.foldl (mL day) s).2=true→(l.foldl (mL day) s).1∈L)
 |[],s,_,hs=>hs
 |
  f::l,s,hl,hs=>by
  rw[List.foldl_cons]
  refine Cb day l _ (fun x hx=>hl x (dv _ hx)) ?_
  unfold mL
  split
  ·exact fun _=>hl f (cC ..)
  ·exact hs
theorem NR{l:Zz}{k:cM}{day known:Int}(h:(tX l k day known).2=true):∃f∈l,f.2.1=(tX l k day known).1:=by
 have hm:=Cb day (L:=l) (l.filter (lf k known)) (zF,false) (fun x hx=>(List.mem_filter.1 hx).1) (fun h=>by cases h)
 have e:(l.filter (lf k known)).foldl (mL day) (zF,false)=lg k day known l (zF,false):=rfl
 rw[e] at hm
 unfold tX at h ⊢
 grind
theorem El(l:Zz)(k:cM)(day known:Int)(hl:l.length≤aH):∃v b,yF l k day known=some (v,b)∧(b=true→∃f∈l,f.2.1=v):=by
 unfold yF
 rw[aA hl]
 exact⟨_,_,rfl,NR⟩
theorem ml(s:cp)(hr:s.2.2.2.1.length≤aH)(a:Int):∃b,f117 s a=some b∧(b=true→0≤a∧a<(s.2.2.1.length:Int)∧2≤(cu s a).length):=by
 have hB:=hB
 have no:∀y:Zm,y=some false→∃r,y=some r∧(r=true→0≤a∧a<(s.2.2.1.length:Int)∧2≤(cu s a).length):=fun y hy=>⟨false,hy,fun h=>(by cases h)⟩
 unfold f117
 by_cases h0:a<0
 ·rw[cz h0];exact no _ rfl
 ·rw[aC (show¬decide (a<(0:Int))=true by grind)]
  by_cases h1:(s.2.2.1.length:Int)≤a
  ·rw[cz h1];exact no _ rfl
  ·rw[aC (show¬decide ((s.2.2.1.length:Int)≤a)=true by grind),aA (Int.not_lt.1 h0),aA (Int.not_le.1 h1)]
   have e:(nth bF s.2.2.1 a).2.2.2.2.1=cu s a:=rfl
   rw[e]
   by_cases h2:((cu s a).length:Int)<2
   ·rw[cD h2];exact no _ rfl
   ·rw[dp h2,aM,aC (by decide),aG]
    dsimp only
    have yes:∀y:Zm,(∃z,y=some z)→∃z,y=some z∧(z=true→0≤a∧a<(s.2.2.1.length:Int)∧2≤(cu s a).length):=fun y ⟨z,hz⟩=>⟨z,hz,fun _=>⟨Int.not_lt.1 h0,Int.not_le.1 h1,by omega⟩⟩
    apply yes
    suffices hW:W (aI (U:=Int×Zu) (zP (Int.toNat (s.2.2.2.1.length:Int)+1) (a,s.2.2.2.1,(s.2.2.2.1.length:Int),0,([]:Zu))) (fun x=>some (!(aQ (.int .i64) .bool x.1 x.2)))) (fun _=>True) by
     obtain⟨r,hr,_⟩:=hW
     grind
    refine bK.2 (W.ct (cd (L:=zP) rfl (CT (fun _=>True) fun _=>True) s.2.2.2.1.length (fun c(d:Zu)=>(a,s.2.2.2.1,(s.2.2.2.1.length:Int),(c:Int),d)) (fun c d=>d.length≤c) ?step ?stop _ 0 [] (by omega) (by omega) (dN _)) (fun d h=>⟨_,rfl,trivial⟩) fun r h=>trivial)
    case step=>
     intro rec c d hc hd kk
     dsimp only
     have hw2:=nE c (by omega)
     rw[cz (by omega),dZ c,aA (show(c:Int)<(s.2.2.2.1.length:Int) by omega),aA (show d.length+1≤aH by omega),hw2]
     grind [du]
    case stop=>
     intro rec d hd
     dsimp only
     rw[aC (by grind)]
     exact⟨_,rfl,trivial⟩
theorem Em{PS:Zf}(v:bz)(s:cp)(hN:NB s)(hl:v.2.1.length≤aH)(hPS:∀f∈v.2.1,f.2.1∈PS)(m a p i d k:Int)(rs:Zh)(hr:(rs.length+1)*40≤aH):
 ∃c b rs',nV m a p i d v k s rs=some (c,b,a,p,i,d,v,k,s,rs')∧rs'.length=rs.length+1∧(b=true→c∈PS):=by
 unfold nV f120
 rw[aM,aA (by grind)]
 obtain⟨x,b,e,hb⟩:=El v.2.1 (a,(p,(bq ((bq ((16:Int)*i))+m),()))) d k hl
 rw[e,aM]
 dsimp only
 cases b with
 |false=>exact⟨_,false,_,rfl,by grind,fun h=>(by cases h)⟩
 |
  true=>
  obtain⟨f,hf,rfl⟩:=hb rfl
  obtain⟨q,hq⟩:=sN s hN a m f.2.1
  rw[aA rfl,hq]
  exact⟨_,q,_,rfl,by grind,fun _=>hPS f hf⟩
theorem J9{PS:Zf}(v:bz)(hN:NB v.1.1)(hR:v.1.1.2.2.2.1.length≤aH)(hF:∀a,0≤a→a<(v.1.1.2.2.1.length:Int)→(cu v.1.1 a).length≤1000)(hl:v.2.1.length≤aH)(hPS:∀f∈v.2.1,f.2.1∈PS)(a p i d k:Int)(hp:p∈PS):
 W (f87 v a p i d k) fun r=>r.2.2.length≤1000∧(r.1=true→FV v.1.1 PS r.2.1 a):=by
 have hB:=hB
 unfold f87
 obtain⟨b,e,hb⟩:=ml v.1.1 hR a
 rw[e,aM]
 have no:∀(z:l7),(([]:Zh).length≤1000∧((false:Bool)=true→FV v.1.1 PS z a)):=fun z=>⟨ik _,fun h=>(by cases h)⟩
 cases b with
 |false=>exact⟨_,rfl,no _⟩
 |
  true=>
  obtain⟨a0,a1,a2⟩:=hb rfl
  rw[aC (by decide)]
  have hs:∃z,f118 p i=some z:=by
   unfold f118
   grind
  obtain⟨z,hz⟩:=hs
  rw[hz,aM]
  cases z with
  |false=>exact⟨_,rfl,no _⟩
  |
   true=>
   rw[aC (by decide)]
   by_cases d0:d<0
   ·rw[cz d0];exact⟨_,rfl,no _⟩
   ·rw[aC (show¬decide (d<(0:Int))=true by grind)]
    by_cases d1:(1024:Int)≤d
    ·rw[cD d1];exact⟨_,rfl,no _⟩
    ·rw[dp d1,aM,aC (by decide),aG]
     dsimp only
     have hFa:=hF a a0 a1
     have e:(nth bF v.1.1.2.2.1 a).2.2.2.2.1=cu v.1.1 a:=rfl
     refine bK.2 (W.ct (cd (L:=FY) rfl (CT (fun r=>∃t s,r=(a,p,i,0,0,0,t,s)∧s.length≤1000∧t.length=(cu v.1.1 a).length∧∀x∈t,x∈PS) fun r=>r.1=false∧r.2.2.length≤1000) (cu v.1.1 a).length (fun c(u:Zf×Zh)=>((c:Int),v,a,p,i,d,k,0,0,0,v.1.1,u.1,u.2)) (fun c u=>u.1.length=c∧u.2.length≤c∧∀x∈u.1,x∈PS) ?step ?stop iw 1 ([p],[]) (by show _<18446744073709551616;omega) (by omega) ⟨rfl,ik _,fun x hx=>(by grind)⟩) (fun r h=>?_) fun r h=>?_)
     case step=>
      rintro rec c ⟨t,s⟩ hc ⟨ht,hs,hP⟩ kk
      dsimp only at ht hs hP ⊢
      have hw2:=nE c (by omega)
      rw[e,aA a0,aA a1,cz (by omega)]
      obtain⟨x,b,s',e2,hs',hx⟩:=Em v v.1.1 hN hl hPS (c:Int) a p i d k s (by omega)
      rw[e2,aM]
      dsimp only
      cases b with
      |false=>exact⟨_,rfl,rfl,by grind⟩
      |
       true=>
       rw[aC (by decide),aA (show(t.length+List.length [x])*8≤aH by grind),hw2]
       refine kk (t++[x],s') ⟨by rw[mb,oA,ht],by show s'.length≤c+1;omega,fun y hy=>?_⟩<;>grind
     case stop=>
      rintro rec ⟨t,s⟩ ⟨ht,hs,hP⟩
      dsimp only at ht hs hP ⊢
      rw[e,aA a0,aA a1,aC (by grind)]
      exact⟨_,rfl,t,s,rfl,by omega,ht,hP⟩
     ·obtain⟨t,s,rfl,h1,h2,h3⟩:=h
      exact⟨_,rfl,h1,fun _=>⟨h2,h3⟩⟩
     grind
theorem rF:∀(rs:Zh)(se:Zd)(acc:Zh),se.length+rs.length≤aH→(acc.length+rs.length)*40≤aH→∃s' a',jO rs se acc=some (s',a')∧s'.length≤se.length+rs.length∧a'.length≤acc.length+rs.length
 |[],se,acc,_,_=>⟨se,acc,rfl,dN _,dN _⟩
 |
  r::rs,se,acc,h1,h2=>by
  rw[gI] at h1 h2 ⊢
  unfold jO
  split
  ·obtain⟨s',a',e,q1,q2⟩:=rF rs se acc (by omega) (by omega)
   grind
  ·have hm:(aX aR r true se).length≤se.length+1:=du
   rw[aA (by omega),aA (by omega)]
   obtain⟨s',a',e,q1,q2⟩:=rF rs (aX aR r true se) (acc++[r]) (by omega) (by grind)
   grind
abbrev Pl:=cM
abbrev FM:=Ze
abbrev SM:=Zd
abbrev DM:=Zc
def IX(PS:Zf)(ix:Ix):Prop:=∀key,(aQ aK (.slice 64 bH) key (aY ix)).length≤1000000∧∀f∈aQ aK (.slice 64 bH) key (aY ix),f.2.1∈PS
structure WX(w:bz)(lo:Zf)(PS:Zf)(U:List Pl)(ix:Ix):Prop where
 cg:CG w.1.1 lo
 zero:(0:Int)∈PS
 consts:∀u∈w.1.1.2.2.2.1,∀t∈u.2.2.2.2.1,t.2.2.1.2.2.2.2.1∈PS
 pl:∀a p i:Int,0≤a→a<(w.1.1.2.2.1.length:Int)→p∈PS→0≤i→i<4→(a,(p,(i,())))∈U
 len:U.length≤1000000
 fl:∀a,0≤a→a<(w.1.1.2.2.1.length:Int)→(cu w.1.1 a).length≤1000
 ix:IX PS ix
structure WY(w:bz)(PS:Zf)(U:List Pl)(ix:Ix):Prop where
 sw:SW w.1.1
 len:U.length≤1000000
 fl:∀a,0≤a→a<(w.1.1.2.2.1.length:Int)→(cu w.1.1 a).length≤1000
 ix:IX PS ix
variable{w:bz}{lo:Zf}{ix:Ix}{U:List Pl}
theorem WX.y{PS:Zf}(h:WX w lo PS U ix):WY w PS U ix:=⟨h.cg.sw,h.len,h.fl,h.ix⟩
structure FI(s:cp)(PS:Zf)(U:List Pl)(fo:FM)(se:SM)(rs:Zh):Prop where
 jV:(fo.map (·.1)).Nodup
 sub:∀e∈fo,e.1∈U
 ok:∀e∈fo,e.2.2.2.2.1=true→FV s PS e.2.1 e.1.1
 se:se.length≤1000*fo.length
 rs:rs.length≤1000*fo.length
variable{α:Type}
theorem yk:∀(l L:List α),l.Nodup→(∀x∈l,x∈L)→l.length≤L.length:=by
 classical
 intro l
 induction l with
 |nil=>grind
 |
  cons a l ih=>
  intro L hn hs
  have ha:=hs a (cC ..)
  have h:=ih (L.erase a) (List.nodup_cons.1 hn).2 fun x hx=>(List.mem_erase_of_ne (fun e:x=a=>(List.nodup_cons.1 hn).1 (e▸hx))).2 (hs x (dv _ hx))
  grind
variable{fo:FM}{se:SM}
theorem FI.len{s:cp}{PS:Zf}{rs:Zh}(h:FI s PS U fo se rs):fo.length≤U.length:=by
 have:=yk _ U h.jV fun x hx=>by
  obtain⟨e,he,rfl⟩:=List.mem_map.1 hx
  exact h.sub e he
 grind
variable{kt:Ty}
theorem GU{k:kt.den}{y:α}:∀{es:List (kt.den×α)},es.length≤(aX kt k y es).length
 |[]=>ik _
 |
  e::es=>by
  unfold aX
  split
  ·grind
  ·rw[gI,gI];exact Nat.succ_le_succ GU
variable{se':SM}
theorem FI.put{s:cp}{PS:Zf}{rs:Zh}(h:FI s PS U fo se rs){p:Pl}(hp:p∈U){x:NG}(hx:x.2.2.2.1=true→FV s PS x.1 p.1){rs':Zh}
 (h1:se'.length≤1000*(aX aK p x fo).length) (h2:rs'.length≤1000*(aX aK p x fo).length):FI s PS U (aX aK p x fo) se' rs' where
 jV:=cT (kt:=aK) rfl h.jV
 sub e he:=by
  rcases fj (kt:=aK) he with rfl|he
  ·exact hp
  ·exact h.sub e he
 ok e he:=by
  rcases fj (kt:=aK) he with rfl|he
  ·exact hx
  ·exact h.ok e he
 se:=h1
 rs:=h2
theorem FI.nil(s:cp)(PS:Zf)(U:List Pl):FI s PS U [] [] []:=
 ⟨List.nodup_nil,fun e he=>(by cases he),fun e he=>(by cases he),dN _,dN _⟩
theorem Cc{PS:Zf}(hw:WY w PS U ix)(p:Pl)(d k:Int)(b:Bool)(m:DM)(z:Unit)(fo:FM)(se:SM)(rs:Zh):
 ∃L:Zz,gz p w ix d k b m z fo se rs=some (w,ix,d,k,b,m,z,fo,se,rs,(w.1,(L,())))∧L.length≤1000*1000000∧∀f∈L,f.2.1∈PS:=by
 have hB:=hB
 suffices hW:W (gz p w ix d k b m z fo se rs) fun r=>∃L:Zz,r=(w,ix,d,k,b,m,z,fo,se,rs,(w.1,(L,())))∧L.length≤1000*1000000∧∀f∈L,f.2.1∈PS by
  obtain⟨r,e,L,rfl,h⟩:=hW
  grind
 have nil:∀f∈([]:Zz),f.2.1∈PS:=fun f hf=>(by cases hf)
 unfold gz
 by_cases h0:0≤p.1
 ·rw[cz h0]
  by_cases h1:p.1<(w.1.1.2.2.1.length:Int)
  ·rw[cD h1,aM,aA rfl,aA h0,aA h1]
   have e:(nth bF w.1.1.2.2.1 p.1).2.2.2.2.1=cu w.1.1 p.1:=rfl
   have hF:=hw.fl _ h0 h1
   rw[e]
   refine bK.2 (W.ct (cd (L:=kv) rfl (CT (fun r=>∃L:Zz,r=(w,ix,d,k,b,m,z,fo,se,rs,w.1,L)∧L.length≤1000*1000000∧∀f∈L,f.2.1∈PS) fun _=>False) (cu w.1.1 p.1).length (fun c(L:Zz)=>(((cu w.1.1 p.1).length:Int),(c:Int),w,ix,d,k,b,m,z,fo,se,rs,p,w.1,L)) (fun c L=>L.length≤c*1000000∧∀f∈L,f.2.1∈PS) ?step ?stop _ 0 [] (by omega) (by omega) ⟨ik _,nil⟩) (fun r h=>?_) fun r h=>?_)
   case step=>
    rintro rec c L hc ⟨hL,hP⟩ kk
    dsimp only
    have hw2:=nE c (by omega)
    obtain⟨q1,q2⟩:=hw.ix (p.1,(p.2.1,(bq ((bq ((16:Int)*p.2.2.1))+(c:Int)),())))
    grind
   case stop=>
    rintro rec L ⟨hL,hP⟩
    dsimp only
    rw[aC (by grind)]
    exact⟨_,rfl,L,rfl,de hL (jb _ hF),hP⟩
   ·obtain⟨L,rfl,h⟩:=h
    exact⟨_,rfl,L,rfl,h⟩
   grind
  ·rw[dp h1];exact⟨_,rfl,[],rfl,ik _,nil⟩
 ·rw[aC (show¬decide ((0:Int)≤p.1)=true by grind)];exact⟨_,rfl,[],rfl,ik _,nil⟩
def PL(w:bz)(PS:Zf)(U:List Pl)(ix:Ix)(d k:Int)(b:Bool)(m:DM)(z:Unit)(p:Pl)(r:bz×Ix×Int×Int×Bool×DM×Unit×FM×SM×NG×List pE):Prop:=
 ∃fo se x rs,r=(w,ix,d,k,b,m,z,fo,se,x,rs)∧FI w.1.1 PS U fo se rs∧(x.2.2.2.1=true→FV w.1.1 PS x.1 p.1)
theorem Sa{PS:Zf}(hw:WY w PS U ix)(p:Pl)(d k:Int)(b:Bool)(m:DM)(z:Unit){rs:Zh}(h:FI w.1.1 PS U fo se rs)(hp:bT aK p fo=false)(hU:p∈U)(hP:p.2.1∈PS):
 ∃(L:Zz)(y:Bool)(x:l7)(n:Zh)(se':SM)(rs':Zh),gz p w ix d k b m z fo se rs=some (w,ix,d,k,b,m,z,fo,se,rs,(w.1,(L,())))∧f87 (w.1,(L,())) p.1 p.2.1 p.2.2.1 d k=some (y,x,n)∧
  ia rs n w ix d k b m z fo se=some (n,w,ix,d,k,b,m,z,fo,se',rs')∧fo.length+1≤aH∧
  PL w PS U ix d k b m z p (w,ix,d,k,b,m,z,aX aK p (x,((0:Int),(([]:Zl),(y,())))) fo,se',(x,((0:Int),(([]:Zl),(y,())))),rs'):=by
 have hB:=hB
 obtain⟨L,e1,hL,hPS⟩:=Cc hw p d k b m z fo se rs
 obtain⟨⟨y,x,n⟩,e2,hn,hx⟩:=J9 (PS:=PS) (w.1,(L,())) hw.sw.nb hw.sw.rules hw.fl (by grind) hPS p.1 p.2.1 p.2.2.1 d k hP
 dsimp only at hn hx
 have hlen:=h.len
 have h1:=hw.len
 have h2:=h.se
 have h3:=h.rs
 obtain⟨se',rs',e3,q1,q2⟩:=rF n se rs (by omega) (by omega)
 refine⟨L,y,x,n,se',rs',e1,e2,?_,by omega,?_⟩
 ·unfold ia
  grind
 ·have hnew:(aX aK p (x,((0:Int),(([]:Zl),(y,())))) fo).length=fo.length+1:=by
   rw[gm (kt:=aK) rfl (fun hm=>by rw[(dg (kt:=aK) rfl).2 hm] at hp;cases hp),mb,oA]
  exact⟨_,_,_,_,rfl,h.put hU hx (by omega) (by omega),hx⟩
abbrev Q0:=Pl×bz×Ix×Int×Int×Bool×DM×Unit×FM×SM×List pE×Unit→Option (bz×Ix×Int×Int×Bool×DM×Unit×FM×SM×NG×List pE)
abbrev Q1:=dn×Int×List l7×bz×Ix×Int×Int×Bool×DM×Unit×FM×SM×List pE×Unit→Option (Bool×dn×Int×bz×Ix×Int×Int×Bool×DM×Unit×FM×SM×List l7×List pE)
theorem GV{s:cp}{PS:Zf}{u:dn}{l:Zl}(hN:NB s)(hL:LI s PS u l)(hl:l.length=u.2.2.1.length){t:gL}(ht:ya (cR s u) t)(h1:t.2.2.1≠-1):
 ∃n,∀(w:bz),w.1.1=s→∀ix d k b m z fo se rs,rq t u w ix d k b m z l fo se rs=some (n,u,w,ix,d,k,b,m,z,l,fo,se,rs):=by
 rcases ht with hi|hi
 ·obtain⟨v,hv,_⟩:=NQ hL hl (Or.inl hi)
  obtain⟨p,hp⟩:=J8 s hN ([],([],((nth aP u.2.2.1 t.2.2.1).2.2.1,(t.2.2.2.1,())))) v
  refine⟨p.1,fun w hw ix d k b m z fo se rs=>?_⟩
  have hp':f219 w.1.1 ([],([],((nth aP u.2.2.1 t.2.2.1).2.2.1,(t.2.2.2.1,())))) v=some p:=by grind
  unfold rq
  rw[aA hi.v0,aA (show t.2.2.1<(u.2.2.1.length:Int) from hi.v1),hv,aM,hp']
  rfl
 grind
theorem Tj{s:cp}{PS:Zf}{u:dn}{l:Zl}(hN:NB s)(hw:u.2.2.2.1.length≤aH)(hR:RK (cR s u))(hL:LI s PS u l)(hl:l.length=u.2.2.1.length):
 ∃y,∀(w:bz),w.1.1=s→∀ix d k b m z fo se rs,oe u w ix d k b m z l fo se rs=some (y,w,ix,d,k,b,m,z,l,fo,se,rs):=by
 have hB:=hB
 have key:∀n i:Nat,u.2.2.2.1.length -i<n→i≤u.2.2.2.1.length→∃y:Bool,∀(w:bz),w.1.1=s→∀ix d k b m z fo se rs,
  gE n (u.2.2.2.1,(u.2.2.2.1.length:Int),(i:Int),w,ix,d,k,b,m,z,l,fo,se,rs,u)=some (if y=true then .brk (w,ix,d,k,b,m,z,l,fo,se,rs) else .ret (false,w,ix,d,k,b,m,z,l,fo,se,rs)):=by
  intro n
  induction n with
  |zero=>grind
  |
   succ n ih=>
   intro i hn hi
   by_cases h:i<u.2.2.2.1.length
   ·have hm:ya (cR s u) (nth aV u.2.2.2.1 (i:Int)).2.1∧ya (cR s u) (nth aV u.2.2.2.1 (i:Int)).2.2.1:=hR.wh _ (dB (t:=aV) (l:=u.2.2.2.1) (dU i) (show(i:Int)<(u.2.2.2.1.length:Int) by omega))
    obtain⟨y,hy⟩:=ih (i+1) (by omega) (by omega)
    have hw2:=nE i (by omega)
    have hi1:(i:Int)<(u.2.2.2.1.length:Int):=by omega
    generalize ha:nth aV u.2.2.2.1 (i:Int)=a at hm
    obtain⟨v1,e1,_⟩:=NQ hL hl hm.1
    obtain⟨v2,e2,_⟩:=NQ hL hl hm.2
    have fin:∀(p q:Int)(c:Bool),f220 a.1 p q=some c→∀(w:bz) ix d k b m z fo se rs(rec:(ZB)×Int×Int×bz×Ix×Int×Int×Bool×DM×Unit×(Zl)×FM×SM×(Zh)×dn→Option (cK (bz×Ix×Int×Int×Bool×DM×Unit×(Zl)×FM×SM×(Zh)) (Bool×bz×Ix×Int×Int×Bool×DM×Unit×(Zl)×FM×SM×(Zh)))),
     rec (u.2.2.2.1,(u.2.2.2.1.length:Int),((i+1:Nat):Int),w,ix,d,k,b,m,z,l,fo,se,rs,u)=some (if y=true then .brk (w,ix,d,k,b,m,z,l,fo,se,rs) else .ret (false,w,ix,d,k,b,m,z,l,fo,se,rs))→
     ((f220 a.1 p q).bind fun y10=>if !y10 then(bU (some (false,w,ix,d,k,b,m,z,l,fo,se,rs))) else(rec (u.2.2.2.1,(u.2.2.2.1.length:Int),bq ((i:Int)+(1:Int)),w,ix,d,k,b,m,z,l,fo,se,rs,u)))=some (if(c&&y)=true then .brk (w,ix,d,k,b,m,z,l,fo,se,rs) else .ret (false,w,ix,d,k,b,m,z,l,fo,se,rs)):=by
     intro p q c hc w ix d k b m z fo se rs rec hr
     rw[hc,aM]
     cases c with
     |false=>rfl
     |true=>grind
    have hi0:=dU i
    by_cases n1:a.2.1.2.2.1= -1
    ·obtain⟨c,hc⟩:=mj a.1 v1 v2
     refine⟨c&&y,fun w hws ix d k b m z fo se rs=>?_⟩
     have hyw:=hy w hws ix d k b m z fo se rs
     unfold gE at hyw ⊢
     rw[aN]
     generalize aL _ n=rec at hyw ⊢
     dsimp only
     rw[cz hi1,aA hi0,aA hi1,ha,e1,aM,e2,aM,aC (show¬(!decide (a.2.1.2.2.1=(-1:Int)))=true by simpa using n1)]
     exact fin v1 v2 c hc w ix d k b m z fo se rs rec hyw
    ·by_cases n2:a.2.2.1.2.2.1= -1
     ·obtain⟨c,hc⟩:=mj a.1 v1 v2
      refine⟨c&&y,fun w hws ix d k b m z fo se rs=>?_⟩
      have hyw:=hy w hws ix d k b m z fo se rs
      unfold gE at hyw ⊢
      rw[aN]
      generalize aL _ n=rec at hyw ⊢
      dsimp only
      rw[cz hi1,aA hi0,aA hi1,ha,e1,aM,e2,aM,aA (show(!decide (a.2.1.2.2.1=(-1:Int)))=true by simpa using n1),aM,aC (show¬(!decide (a.2.2.1.2.2.1=(-1:Int)))=true by simpa using n2)]
      exact fin v1 v2 c hc w ix d k b m z fo se rs rec hyw
     ·obtain⟨p,hp⟩:=GV hN hL hl hm.1 n1
      obtain⟨q,hq⟩:=GV hN hL hl hm.2 n2
      obtain⟨c,hc⟩:=mj a.1 p q
      refine⟨c&&y,fun w hws ix d k b m z fo se rs=>?_⟩
      have hyw:=hy w hws ix d k b m z fo se rs
      unfold gE at hyw ⊢
      rw[aN]
      generalize aL _ n=rec at hyw ⊢
      dsimp only
      rw[cz hi1,aA hi0,aA hi1,ha,e1,aM,e2,aM,aA (show(!decide (a.2.1.2.2.1=(-1:Int)))=true by simpa using n1),aM,aA (show(!decide (a.2.2.1.2.2.1=(-1:Int)))=true by simpa using n2),hp w hws ix d k b m z fo se rs,aM]
      dsimp only
      rw[hq w hws ix d k b m z fo se rs,aM]
      exact fin p q c hc w ix d k b m z fo se rs rec hyw
   ·refine⟨true,fun w hws ix d k b m z fo se rs=>?_⟩
    unfold gE
    rw[aN]
    grind
 obtain⟨y,hy⟩:=key (Int.toNat (u.2.2.2.1.length:Int)+1) 0 (by omega) (by omega)
 refine⟨y,fun w hws ix d k b m z fo se rs=>?_⟩
 have hyw:gE (Int.toNat (u.2.2.2.1.length:Int)+1) (u.2.2.2.1,(u.2.2.2.1.length:Int),0,w,ix,d,k,b,m,z,l,fo,se,rs,u)=_:=hy w hws ix d k b m z fo se rs
 unfold oe
 rw[hyw]
 cases y<;>rfl
theorem NS{s:cp}{PS:Zf}{u:dn}{l:Zl}(hw:u.2.2.2.2.1.length≤aH)(hR:RK (cR s u))(hL:LI s PS u l)(hl:l.length=u.2.2.1.length)(hf:1≤(cu s u.2.1).length)(hf2:(cu s u.2.1).length≤1000)(p:Int)(hp:p∈PS)(h0:(0:Int)∈PS)(hc:∀t∈u.2.2.2.2.1,t.2.2.1.2.2.2.2.1∈PS):
 ∃x,FV s PS x u.2.1∧(u.2.1,(p,((0:Int),(x.2.2.2.1,()))))=x∧∀(w:bz),w.1.1=s→∀ix d k b m z fo se rs,nv u p l w ix d k b m z fo se rs=some (w,ix,d,k,b,m,z,fo,se,rs,x):=by
 have hB:=hB
 have key:∀(n i:Nat)(v:Zf),u.2.2.2.2.1.length -i<n→i≤u.2.2.2.2.1.length→v.length=(cu s u.2.1).length→(∀x∈v,x∈PS)→∃v',v'.length=(cu s u.2.1).length∧(∀x∈v',x∈PS)∧∀(w:bz) ix d k b m z fo se rs,
  ju n (p,l,u.2.2.2.2.1,(u.2.2.2.2.1.length:Int),(i:Int),w,ix,d,k,b,m,z,fo,se,rs,u,0,0,0,v)=some (.brk (p,w,ix,d,k,b,m,z,fo,se,rs,u,0,0,0,v')):=by
  intro n
  induction n with
  |zero=>grind
  |
   succ n ih=>
   intro i v hn hi hv hP
   by_cases h:i<u.2.2.2.2.1.length
   ·have hi1:(i:Int)<(u.2.2.2.2.1.length:Int):=by omega
    have hi0:=dU i
    have hm:=dB (t:=bu) (l:=u.2.2.2.2.1) hi0 hi1
    have hw2:=nE i (by omega)
    have hc2:=hc _ hm
    obtain⟨hi,ht⟩:=hR.st _ hm
    obtain⟨y,ey,hy⟩:=NQ hL hl ht
    have hb:(nth bu u.2.2.2.2.1 (i:Int)).2.1<(v.length:Int):=by rw[hv];exact hi.b1
    obtain⟨v',q1,q2,q3⟩:=ih (i+1) (List.set v (Int.toNat (nth bu u.2.2.2.2.1 (i:Int)).2.1) y) (by omega) (by omega) (by grind) (fun x hx=>by
     grind)
    refine⟨v',q1,q2,fun w ix d k b m z fo se rs=>?_⟩
    have hyw:=q3 w ix d k b m z fo se rs
    unfold ju at hyw ⊢
    rw[aN]
    generalize aL _ n=rec at hyw ⊢
    dsimp only
    rw[cz hi1,aA hi0,aA hi1,ey,aM,aA hi.b0,aA hb,hw2]
    exact hyw
   ·refine⟨v,hv,hP,fun w ix d k b m z fo se rs=>?_⟩
    unfold ju
    rw[aN]
    grind
 obtain⟨v',q1,q2,q3⟩:=key (Int.toNat (u.2.2.2.2.1.length:Int)+1) 0 (List.set (List.replicate (Int.toNat ((cu s u.2.1).length:Int)) (0:Int)) (Int.toNat (0:Int)) p) (by omega) (by omega) (by grind) (fun x hx=>by
  grind)
 refine⟨(u.2.1,(p,((0:Int),(v',())))),⟨q1,q2⟩,rfl,fun w hws ix d k b m z fo se rs=>?_⟩
 subst hws
 have e:(nth bF w.1.1.2.2.1 u.2.1).2.2.2.2.1=cu w.1.1 u.2.1:=rfl
 have q:=q3 w ix d k b m z fo se rs
 have q':ju (Int.toNat (u.2.2.2.2.1.length:Int)+1) (p,l,u.2.2.2.2.1,(u.2.2.2.2.1.length:Int),0,w,ix,d,k,b,m,z,fo,se,rs,u,0,0,0,List.set (List.replicate (Int.toNat ((cu w.1.1 u.2.1).length:Int)) (0:Int)) (Int.toNat (0:Int)) p)=_:=q
 unfold nv
 rw[aA hR.h0,aA hR.h1,e,dZ _,aA (mr _),aA (by omega),aA (by grind),q',aG]
def iy(s:cp)(ix:Ix)(p:Pl):Zz:=if 0≤p.1∧p.1<(s.2.2.1.length:Int) then(List.range (cu s p.1).length).flatMap fun(c:Nat)=>aQ aK (.slice 64 bH) (p.1,(p.2.1,(bq ((bq ((16:Int)*p.2.2.1))+(c:Int)),()))) (aY ix) else[]
theorem GW{PS:Zf}(hw:WY w PS U ix)(p:Pl)(d k:Int)(b:Bool)(m:DM)(z:Unit)(fo:FM)(se:SM)(rs:Zh):
 gz p w ix d k b m z fo se rs=some (w,ix,d,k,b,m,z,fo,se,rs,(w.1,(iy w.1.1 ix p,()))):=by
 have hB:=hB
 suffices hW:W (gz p w ix d k b m z fo se rs) fun r=>r=(w,ix,d,k,b,m,z,fo,se,rs,(w.1,(iy w.1.1 ix p,()))) by
  obtain⟨r,e,rfl⟩:=hW
  exact e
 unfold gz
 by_cases h0:0≤p.1
 ·rw[cz h0]
  by_cases h1:p.1<(w.1.1.2.2.1.length:Int)
  ·rw[cD h1,aM,aA rfl,aA h0,aA h1]
   have e:(nth bF w.1.1.2.2.1 p.1).2.2.2.2.1=cu w.1.1 p.1:=rfl
   have hF:=hw.fl _ h0 h1
   rw[e]
   have ea:iy w.1.1 ix p=(List.range (cu w.1.1 p.1).length).flatMap fun(c:Nat)=>aQ aK (.slice 64 bH) (p.1,(p.2.1,(bq ((bq ((16:Int)*p.2.2.1))+(c:Int)),()))) (aY ix):=aA ⟨h0,h1⟩
   rw[ea]
   refine bK.2 (W.ct (cd (L:=kv) rfl (CT (fun r=>r=(w,ix,d,k,b,m,z,fo,se,rs,w.1,(List.range (cu w.1.1 p.1).length).flatMap fun(c:Nat)=>aQ aK (.slice 64 bH) (p.1,(p.2.1,(bq ((bq ((16:Int)*p.2.2.1))+(c:Int)),()))) (aY ix))) fun _=>False) (cu w.1.1 p.1).length (fun c(L:Zz)=>(((cu w.1.1 p.1).length:Int),(c:Int),w,ix,d,k,b,m,z,fo,se,rs,p,w.1,L)) (fun c L=>L.length≤c*1000000∧L=(List.range c).flatMap fun(c:Nat)=>aQ aK (.slice 64 bH) (p.1,(p.2.1,(bq ((bq ((16:Int)*p.2.2.1))+(c:Int)),()))) (aY ix)) ?step ?stop _ 0 [] (by omega) (by omega) ⟨ik _,rfl⟩) (fun r h=>?_) fun r h=>h.elim)
   case step=>
    rintro rec c L hc ⟨hL,hP⟩ kk
    dsimp only
    have hw2:=nE c (by omega)
    obtain⟨q1,q2⟩:=hw.ix (p.1,(p.2.1,(bq ((bq ((16:Int)*p.2.2.1))+(c:Int)),())))
    rw[cz (by omega),aA (by omega),hw2]
    grind [List.range_succ]
   case stop=>
    rintro rec L ⟨hL,hP⟩
    dsimp only
    rw[aC (by grind),hP]
    exact⟨_,rfl,rfl⟩
   ·subst h
    exact⟨_,rfl,rfl⟩
  ·have ea:iy w.1.1 ix p= []:=aC fun h=>h1 h.2
   rw[dp h1,ea];exact⟨_,rfl,rfl⟩
 ·have ea:iy w.1.1 ix p= []:=aC fun h=>h0 h.1
  rw[aC (show¬decide ((0:Int)≤p.1)=true by grind),ea];exact⟨_,rfl,rfl⟩
structure T2(w1:bz)(ix1:Ix)(k1:Int)(w2:bz)(ix2:Ix)(k2:Int)(lo PS:Zf)(U:List Pl)(d:Int)(Gd:pE→Prop):Prop where
 h1:WX w1 lo PS U ix1
 h2:WX w2 lo PS U ix2
 tb:w2.1=w1.1
 rd:∀(p:Pl) r,f87 (w1.1,(iy w1.1.1 ix1 p,())) p.1 p.2.1 p.2.2.1 d k1=some r→(∀q∈r.2.2,Gd q)→f87 (w2.1,(iy w2.1.1 ix2 p,())) p.1 p.2.1 p.2.2.1 d k2=some r
structure FT(b:cp):Prop where
 dj:b.2.2.1.length≤6
 rules:b.2.2.2.1.length≤4
 fields:∀x∈b.2.2.1,x.2.2.2.2.1.length≤6
 abZ:∀x∈b.2.2.2.1,x.2.2.2.2.1.length≤6
theorem NT(b:cp)(h:SS b):∃r,f108 b=some r∧(r=true→FT b):=by
 have hB:=hB
 have h3:=h.dj
 have h4:=h.rules
 have h5:=h.iV
 have h6:=h.fh
 suffices hW:W (f108 b) fun r=>r=true→FT b by
  trivial
 have nb:∀n:Nat,n≤aH→n -0<iw:=fun n hn=>by show _<18446744073709551616;omega
 have no:(false:Bool)=true→FT b:=fun h=>(by cases h)
 unfold f108
 refine bK.2 (W.ct (cd (L:=IH) rfl (CT (fun d=>d=b∧∀j(hj:j<b.2.2.1.length),b.2.2.1[j].2.2.2.2.1.length≤6) fun r=>r=false) b.2.2.1.length (fun c(_:Unit)=>((c:Int),b)) (fun c _=>∀j(hj:j<b.2.2.1.length),j<c→b.2.2.1[j].2.2.2.2.1.length≤6) ?step ?stop iw 0 () (nb _ h3) (by omega) (fun j _ h=>absurd h (Nat.not_lt_zero _))) (fun d hd=>?_) fun r hr=>by grind)
 case step=>
  intro rec c _ hc hI kk
  dsimp only
  have hw2:=nE c (by omega)
  have hcc:(c:Int)<(b.2.2.1.length:Int):=by omega
  rw[cz hcc,dZ c,aA hcc,cJ (t:=bF) hc]
  by_cases a1:(6:Int)<(b.2.2.1[c].2.2.2.2.1.length:Int)
  ·rw[cz a1];exact⟨_,rfl,rfl⟩
  ·rw[aC (show¬decide ((6:Int)<(b.2.2.1[c].2.2.2.2.1.length:Int))=true by grind),dZ c,aA hcc,aM]
   split
   ·exact⟨_,rfl,rfl⟩
   ·rw[hw2]
    refine kk () fun j hj hjc=>?_<;>grind
 case stop=>
  intro rec _ hI
  dsimp only
  rw[aC (by grind)]
  exact⟨_,rfl,rfl,fun j hj=>hI j hj hj⟩
 obtain⟨rfl,hf⟩:=hd
 refine bK.2 (W.ct (cd (L:=II) rfl (CT (fun d'=>d'=d∧∀j(hj:j<d.2.2.2.1.length),d.2.2.2.1[j].2.2.2.2.1.length≤6) fun r=>r=false) d.2.2.2.1.length (fun c(_:Unit)=>((c:Int),d)) (fun c _=>∀j(hj:j<d.2.2.2.1.length),j<c→d.2.2.2.1[j].2.2.2.2.1.length≤6) ?step ?stop iw 0 () (nb _ h4) (by omega) (fun j _ h=>absurd h (Nat.not_lt_zero _))) (fun d' hd=>?_) fun r hr=>by grind)
 case step=>
  intro rec c _ hc hI kk
  dsimp only
  have hw2:=nE c (by omega)
  have hcc:(c:Int)<(d.2.2.2.1.length:Int):=by omega
  rw[cz hcc,dZ c,aA hcc,cJ (t:=bG) hc]
  by_cases a1:(4:Int)<(d.2.2.2.1[c].2.2.1.length:Int)
  ·rw[cz a1];exact⟨_,rfl,rfl⟩
  ·rw[aC (show¬decide ((4:Int)<(d.2.2.2.1[c].2.2.1.length:Int))=true by grind),dZ c,aA hcc]
   by_cases a2:(5:Int)<(d.2.2.2.1[c].2.2.2.1.length:Int)
   ·rw[cz a2];exact⟨_,rfl,rfl⟩
   ·rw[aC (show¬decide ((5:Int)<(d.2.2.2.1[c].2.2.2.1.length:Int))=true by grind),dZ c,aA hcc,aM]
    by_cases a3:(6:Int)<(d.2.2.2.1[c].2.2.2.2.1.length:Int)
    ·rw[cz a3];exact⟨_,rfl,rfl⟩
    ·rw[aC (show¬decide ((6:Int)<(d.2.2.2.1[c].2.2.2.2.1.length:Int))=true by grind),hw2]
     refine kk () fun j hj hjc=>?_<;>grind
 case stop=>
  intro rec _ hI
  dsimp only
  rw[aC (by grind)]
  exact⟨_,rfl,rfl,fun j hj=>hI j hj hj⟩
 obtain⟨rfl,hs⟩:=hd
 refine bK.2 (W.ct (cd (L:=Eb) rfl (CT (fun d=>d=d') fun r=>r=false) d'.2.2.2.2.1.length (fun c(_:Unit)=>((c:Int),d')) (fun _ _=>True) ?step ?stop iw 0 () (nb _ h5) (by omega) trivial) (fun d hd=>?_) fun r hr=>by grind)
 case step=>
  intro rec c _ hc _ kk
  dsimp only
  have hw2:=nE c (by omega)
  have hcc:(c:Int)<(d'.2.2.2.2.1.length:Int):=by omega
  rw[cz hcc,dZ c,aA hcc]
  split
  ·exact⟨_,rfl,rfl⟩
  simp_all
 case stop=>
  intro rec _ _
  dsimp only
  rw[aC (by grind)]
  exact⟨_,rfl,rfl⟩
 subst hd
 refine bK.2 (W.ct (cd (L:=Ec) rfl (CT (fun d'=>d'=d) fun r=>r=false) d.2.2.2.2.2.1.length (fun c(_:Unit)=>((c:Int),d)) (fun _ _=>True) ?step ?stop iw 0 () (nb _ h6) (by omega) trivial) (fun d' hd=>?_) fun r hr=>by grind)
 case step=>
  intro rec c _ hc _ kk
  dsimp only
  have hw2:=nE c (by omega)
  have hcc:(c:Int)<(d.2.2.2.2.2.1.length:Int):=by omega
  rw[cz hcc,dZ c,aA hcc]
  split
  ·exact⟨_,rfl,rfl⟩
  simp_all
 case stop=>
  intro rec _ _
  dsimp only
  rw[aC (by grind)]
  exact⟨_,rfl,rfl⟩
 subst hd
 by_cases c1:(d'.1.length:Int)≤4
 ·rw[cz c1]
  by_cases c2:(d'.2.1.length:Int)≤5
  ·rw[cz c2]
   by_cases c3:(d'.2.2.1.length:Int)≤6
   ·rw[cz c3]
    by_cases c4:(d'.2.2.2.1.length:Int)≤4
    ·rw[cz c4]
     have gy:FT d':=⟨by omega,by omega,fun x hx=>by
      obtain⟨j,hj,rfl⟩:=jz hx
      grind,fun x hx=>by
      obtain⟨j,hj,rfl⟩:=jz hx
      grind⟩
     split
     ·exact⟨_,rfl,fun _=>gy⟩
     ·exact⟨_,rfl,no⟩
    ·rw[aC (show¬decide ((d'.2.2.2.1.length:Int)≤4)=true by grind)];exact⟨_,rfl,no⟩
   ·rw[aC (show¬decide ((d'.2.2.1.length:Int)≤6)=true by grind)];exact⟨_,rfl,no⟩
  ·rw[aC (show¬decide ((d'.2.1.length:Int)≤5)=true by grind)];exact⟨_,rfl,no⟩
 ·rw[aC (show¬decide ((d'.1.length:Int)≤4)=true by grind)];exact⟨_,rfl,no⟩
theorem NU(w:bz)(h:SS w.1.1):∃r,f49 w=some r∧(r=true→FT w.1.1∧w.2.1.length≤60):=by
 obtain⟨r,e,hr⟩:=NT w.1.1 h
 unfold f49 f72
 rw[e,aM]
 grind
theorem NV(w:bz)(h:SS w.1.1):∃r,f21 w=some r∧(r=true→FT w.1.1∧w.2.1.length≤60):=by
 have hB:=hB
 have h4:=h.rules
 suffices hW:W (f21 w) fun r=>r=true→FT w.1.1∧w.2.1.length≤60 by
  trivial
 have no:(false:Bool)=true→FT w.1.1∧w.2.1.length≤60:=fun h=>(by cases h)
 unfold f21
 refine bK.2 (W.ct (cd (L:=Nw) rfl (CT (fun d=>d=(w,w.1.1)) fun r=>r=false) w.1.1.2.2.2.1.length (fun c(_:Unit)=>((c:Int),w,w.1.1)) (fun _ _=>True) ?step ?stop iw 0 () (by show _<18446744073709551616;omega) (by omega) trivial) (fun d hd=>?_) fun r hr=>by grind)
 case step=>
  intro rec c _ hc _ kk
  dsimp only
  have hw2:=nE c (by omega)
  have hcc:(c:Int)<(w.1.1.2.2.2.1.length:Int):=by omega
  rw[cz hcc,dZ c,aA hcc]
  split
  ·exact⟨_,rfl,rfl⟩
  simp_all
 case stop=>
  intro rec _ _
  dsimp only
  rw[aC (by grind)]
  exact⟨_,rfl,rfl⟩
 subst hd
 dsimp only
 obtain⟨r,e,hr⟩:=NU w h
 rw[e,aM]
 cases r with
 |false=>exact⟨false,rfl,no⟩
 |
  true=>
  have ht:=hr rfl
  rw[aA rfl]
  split
  ·exact⟨_,rfl,fun _=>ht⟩
  ·exact⟨false,rfl,no⟩
def iO(k:cM)(l:Zz):Zz:=l.filter fun f=>bl aK f.1 k
theorem IL(k:cM)(l:Zz)(x:gF):iO k (l++[x])=iO k l++if bl aK x.1 k=true then[x] else[]:=by
 grind [iO]
def xH(l:Zo):Zu:=l.foldl (fun m u=>aX (.int .i64) u.2.1 true m) []
theorem IM(l:Zo)(u:dn):xH (l++[u])=aX (.int .i64) u.2.1 true (xH l):=by
 grind [xH]
theorem yl:∀(l:Zo)(m:Zu),(l.foldl (fun m u=>aX (.int .i64) u.2.1 true m) m).length≤m.length+l.length
 |[],m=>dN _
 |
  u::l,m=>by
  have h:=yl l (aX (.int .i64) u.2.1 true m)
  have h2:(aX (.int .i64) u.2.1 true m).length≤m.length+1:=du (kt:=.int .i64)
  rw[List.foldl_cons,gI]
  omega
theorem Ka(l:Zo):(xH l).length≤l.length:=by
 have h:=yl l []
 rw[List.length_nil,eK] at h
 exact h
theorem ym(l:List α)(c:Nat)(h:c<l.length):l.take (c+1)=l.take c++[l[c]]:=List.take_succ_eq_append_getElem h
theorem Kb(w:bz)(hf:w.2.1.length≤1000000)(hr:w.1.1.2.2.2.1.length≤aH)(d k:Int)(v:Bool):
 ∃ix:List (cM×Zz),rE w d k v=some (w,some ix,d,k,v,some (xH w.1.1.2.2.2.1),(),[],[],[])∧∀key,aQ aK (.slice 64 bH) key ix=iO key w.2.1:=by
 have hB:=hB
 suffices hW:W (rE w d k v) fun r=>∃ix:List (cM×Zz),r=(w,some ix,d,k,v,some (xH w.1.1.2.2.2.1),(),[],[],[])∧∀key,aQ aK (.slice 64 bH) key ix=iO key w.2.1 by
  obtain⟨r,e,ix,rfl,h⟩:=hW
  grind
 unfold rE
 refine bK.2 (W.ct (cd (L:=yf) rfl (CT (fun r=>∃ix:List (cM×Zz),r=(d,k,w,ix,([]:Zu),w,0,0,v)∧∀key,aQ aK (.slice 64 bH) key ix=iO key w.2.1) fun _=>False) w.2.1.length (fun c(ix:List (cM×Zz))=>(d,k,w.2.1,(w.2.1.length:Int),(c:Int),w,ix,([]:Zu),w,0,0,v)) (fun c ix=>ix.length≤2*c∧∀key,aQ aK (.slice 64 bH) key ix=iO key (w.2.1.take c)) ?step ?stop _ 0 [] (by omega) (by omega) ⟨ik _,fun key=>rfl⟩) (fun r hr=>?_) fun r hr=>hr.elim)
 case step=>
  rintro rec c ix hc ⟨hl,hI⟩ kk
  dsimp only
  have hw2:=nE c (by omega)
  have hcc:(c:Int)<(w.2.1.length:Int):=by omega
  rw[cz hcc,dZ c,aA hcc,cJ (t:=bH) hc]
  have ht:=ym w.2.1 c hc
  generalize w.2.1[c]=x at ht ⊢
  have h1:(aQ aK (.slice 64 bH) x.1 ix).length≤w.2.1.length:=by
   rw[hI x.1]
   exact de (yv ..) (by grind)
  rw[aA ((cL aK x.1 x.1).2 rfl),aA (show ix.length+1≤aH by omega),aA (show((aQ aK (.slice 64 bH) x.1 ix).length+List.length [x])*64≤aH by grind),hw2]
  refine kk _ ⟨?_,fun key=>?_⟩
  ·have q1:(aX aK x.1 (Ty.aD (.slice 64 bH)) ix).length≤ix.length+1:=du (kt:=aK)
   have q2:(aX aK x.1 (aQ aK (.slice 64 bH) x.1 ix++[x]) (aX aK x.1 (Ty.aD (.slice 64 bH)) ix)).length≤(aX aK x.1 (Ty.aD (.slice 64 bH)) ix).length+1:=du (kt:=aK)
   omega
  ·rw[ht,IL]
   by_cases e:key=x.1
   ·subst e
    rw[dr (kt:=aK) (vt:=.slice 64 bH) rfl,hI,aA ((cL aK x.1 x.1).2 rfl)]
   ·rw[dE (kt:=aK) (vt:=.slice 64 bH) rfl e,dE (kt:=aK) (vt:=.slice 64 bH) rfl e,hI,aC (fun h=>e ((cL aK x.1 key).1 h).symm),fH]
 case stop=>
  rintro rec ix ⟨hl,hI⟩
  dsimp only
  rw[aC (by grind)]
  rw[List.take_length] at hI
  exact⟨_,rfl,ix,rfl,hI⟩
 obtain⟨ix,rfl,hI⟩:=hr
 dsimp only
 refine bK.2 (W.ct (cd (L:=yg) rfl (CT (fun r=>r=(d,k,ix,xH w.1.1.2.2.2.1,w,0,0,v)) fun _=>False) w.1.1.2.2.2.1.length (fun c(m:Zu)=>(d,k,w.1.1.2.2.2.1,(w.1.1.2.2.2.1.length:Int),(c:Int),ix,m,w,0,0,v)) (fun c m=>m=xH (w.1.1.2.2.2.1.take c)) ?step ?stop _ 0 [] (by omega) (by omega) rfl) (fun r hr=>?_) fun r hr=>hr.elim)
 case step=>
  rintro rec c m hc rfl kk
  dsimp only
  have hw2:=nE c (by omega)
  have hcc:(c:Int)<(w.1.1.2.2.2.1.length:Int):=by omega
  have hl:=Ka (w.1.1.2.2.2.1.take c)
  rw[oz] at hl
  rw[cz hcc,dZ c,aA hcc,aA (show(xH (w.1.1.2.2.2.1.take c)).length+1≤aH by omega),hw2,cJ (t:=bG) hc]
  grind [ym,IM]
 case stop=>
  rintro rec m rfl
  dsimp only
  rw[aC (by grind),List.take_length]
  exact⟨_,rfl,rfl⟩
 subst hr
 exact⟨_,rfl,ix,rfl,hI⟩
theorem kZ{α β:Type}{f:α→List β}{n:Nat}:∀{l:List α},(∀x∈l,(f x).length≤n)→(l.flatMap f).length≤l.length*n
 |[],_=>ik _
 |
  x::l,h=>by
  have h1:=h x (cC ..)
  have h2:=kZ (f:=f) (n:=n) (l:=l) fun y hy=>h y (dv _ hy)
  grind [gQ]
def B5(w:bz)(p:Int):Zf:=0::p::(w.2.1.map (fun f=>f.2.1)++w.1.1.2.2.2.1.flatMap fun u=>u.2.2.2.2.1.map fun t=>t.2.2.1.2.2.2.2.1)
def Uo(w:bz)(p:Int)(x:Pl):List Pl:=x::(List.range w.1.1.2.2.1.length).flatMap fun(i:Nat)=>(B5 w p).flatMap fun(q:Int)=>(List.range 4).map fun(j:Nat)=>(((i:Int),(q,((j:Int),()))):Pl)
theorem GX(p:Int)(hT:FT w.1.1)(hf:w.2.1.length≤60):(B5 w p).length≤86:=by
 have h:=kZ (f:=fun u:dn=>u.2.2.2.2.1.map fun t=>t.2.2.1.2.2.2.2.1) (n:=6) (l:=w.1.1.2.2.2.1) fun x hx=>by rw[sX];exact hT.abZ x hx
 have h4:=hT.rules
 grind [B5]
theorem Kc(p:Int)(x:Pl)(hT:FT w.1.1)(hf:w.2.1.length≤60):(Uo w p x).length≤2100:=by
 have h1:=GX p hT hf
 have h2:∀i:Nat,((B5 w p).flatMap fun(q:Int)=>(List.range 4).map fun(j:Nat)=>(((i:Int),(q,((j:Int),()))):Pl)).length≤344:=fun i=>by
  have:=kZ (f:=fun(q:Int)=>(List.range 4).map fun(j:Nat)=>(((i:Int),(q,((j:Int),()))):Pl)) (n:=4) (l:=B5 w p) fun y _=>by grind
  omega
 have h3:=kZ (f:=fun(i:Nat)=>(B5 w p).flatMap fun(q:Int)=>(List.range 4).map fun(j:Nat)=>(((i:Int),(q,((j:Int),()))):Pl)) (n:=344) (l:=List.range w.1.1.2.2.1.length) fun i _=>h2 i
 rw[List.length_range] at h3
 have h4:=hT.dj
 grind [Uo]
theorem Sb(p:Int)(x:Pl){a q i:Int}(a0:0≤a)(a1:a<(w.1.1.2.2.1.length:Int))(hq:q∈B5 w p)(i0:0≤i)(i1:i<4):(a,(q,(i,())))∈Uo w p x:=by
 refine dv _ (List.mem_flatMap.2 ⟨a.toNat,List.mem_range.2 (by omega),List.mem_flatMap.2 ⟨q,hq,List.mem_map.2 ⟨i.toNat,List.mem_range.2 (by omega),?_⟩⟩⟩)<;>grind
theorem WXo(hc:CG w.1.1 lo)(hT:FT w.1.1)(hf:w.2.1.length≤60)(p:Int)(x:Pl)(hix:IX (B5 w p) ix):WX w lo (B5 w p) (Uo w p x) ix where
 cg:=hc
 zero:=cC ..
 consts u hu t ht:=dv _ (dv _ (lP _ (List.mem_flatMap.2 ⟨u,hu,List.mem_map.2 ⟨t,ht,rfl⟩⟩)))
 pl _ _ _ a0 a1 hq i0 i1:=Sb p x a0 a1 hq i0 i1
 len:=de (Kc p x hT hf) (by decide)
 fl a a0 a1:=by
  have:=hT.fields _ (dB (t:=bF) (l:=w.1.1.2.2.1) a0 a1)
  exact de this (by decide)
 ix:=hix
abbrev Rs:=NG
abbrev In:=l7
abbrev Rd:=pE
abbrev Ru:=dn
abbrev An:=Bool×In×List Rd
inductive Qy(α:Type) where
 |ret:α→Qy α
 |ask:Pl→(Bool→In→Qy α)→Qy α
def Qy.bind{α β:Type}:Qy α→(α→Qy β)→Qy β
 | .ret a,f=>f a
 | .ask p k,f=>.ask p fun b x=>(k b x).bind f
def Qy.run{α:Type}(O:Pl→An):Qy α→α×List Rd
 | .ret a=>(a,[])
 | .ask p k=>(((k (O p).1 (O p).2.1).run O).1,(O p).2.2++((k (O p).1 (O p).2.1).run O).2)
variable{β:Type}
theorem Qy.run_bind(O:Pl→An)(f:α→Qy β):∀x:Qy α,(x.bind f).run O=(((f (x.run O).1).run O).1,(x.run O).2++((f (x.run O).1).run O).2)
 | .ret a=>rfl
 |
  .ask p k=>by
  show((((k (O p).1 (O p).2.1).bind f).run O).1,(O p).2.2++(((k (O p).1 (O p).2.1).bind f).run O).2)=((((f ((k (O p).1 (O p).2.1).run O).1)).run O).1,((O p).2.2++((k (O p).1 (O p).2.1).run O).2)++((f ((k (O p).1 (O p).2.1).run O).1).run O).2)
  rw[Qy.run_bind O f (k (O p).1 (O p).2.1),vG]
open Classical in
def cV:List Rd→List Rd→List Rd
 |rs,[]=>rs
 |rs,r::t=>cV (if r∈rs then rs else rs++[r]) t
theorem dT:∀(a rs b:List Rd),cV rs (a++b)=cV (cV rs a) b
 |[],_,_=>rfl
 |r::a,rs,b=>dT a (if r∈rs then rs else rs++[r]) b
theorem pS:∀(t rs:List Rd)(x:Rd),x∈cV rs t↔x∈rs∨x∈t
 |[],rs,x=>by simp[cV]
 |
  r::t,rs,x=>by
  unfold cV
  rw[pS t]
  grind
theorem vg:∀(t rs:List Rd),(∀r∈t,r∈rs)→cV rs t=rs
 |[],_,_=>rfl
 |
  r::t,rs,h=>by
  unfold cV
  rw[aA (h r (cC ..))]
  exact vg t rs fun x hx=>h x (dv _ hx)
def SJ(se:SM)(rs:List Rd):Prop:=∀r,aQ aR .bool r se=true↔r∈rs
theorem rG:∀(n:List Rd)(se:SM)(acc:List Rd)(s':SM)(a':List Rd),jO n se acc=some (s',a')→SJ se acc→a'=cV acc n∧SJ s' a'
 |
  [],se,acc,s',a',h,hs=>by
  cases h
  trivial
 |
  r::n,se,acc,s',a',h,hs=>by
  unfold jO at h
  unfold cV
  split at h
  ·rename_i hm
   rw[aA ((hs r).1 hm)]
   exact rG n se acc s' a' h hs
  ·rename_i hm
   rw[aC fun hr=>hm ((hs r).2 hr)]
   split at h
   ·split at h
    ·refine rG n _ _ s' a' h fun x=>?_
     rw[iW,mo]
     by_cases e:x=r
     ·subst e
      rw[dr (kt:=aR) (vt:=.bool) rfl]
      grind
     ·rw[dE (kt:=aR) (vt:=.bool) rfl e,hs x]
      grind
    grind
   grind
def w0(s:cp):bz:=((s,([],())),([],()))
def Cd(s:cp)(u:Ru)(l:List In):Bool:=match oe u (w0 s) none 0 0 false none () l [] [] [] with
 |some r=>r.1
 |none=>false
def jv(s:cp)(u:Ru)(p:Int)(l:List In):In:=(u.2.1,(p,((0:Int),((match nv u p l (w0 s) none 0 0 false none () [] [] [] with
 |some r=>r.2.2.2.2.2.2.2.2.2.2.2.2.2.1
 |none=>[]),()))))
def rH(u:Ru)(p:Int)(l:List In):Int:=
 if(nth aP u.2.2.1 (l.length:Int)).2.2.2.1.2.2.1= -1 then p else nth (.int .i64) (nth bp l (nth aP u.2.2.1 (l.length:Int)).2.2.2.1.2.2.1).2.2.2.1 (nth aP u.2.2.1 (l.length:Int)).2.2.2.1.2.2.2.1
def jw(look:Pl→Qy Rs)(ch:List In→Qy (Bool×List In))(a o:Int)(l:List In):Nat→Nat→Qy (Bool×List In)
 |0,_=>.ret (false,l)
 |n+1,c=>(look (a,(o,((c:Int),())))).bind fun x=>if x.2.2.2.1=true then(ch (l++[x.1])).bind fun y=>if y.1=true then .ret y else jw look ch a o l n (c+1) else jw look ch a o l n (c+1)
def cP(m:DM)(a:Int):Nat:=if aQ (.int .i64) .bool a (aY m)=true then 1 else 4
def dx(look:Pl→Qy Rs)(s:cp)(m:DM)(u:Ru)(p:Int):Nat→List In→Qy (Bool×List In)
 |0,l=>.ret (Cd s u l,l)
 |n+1,l=>jw look (dx look s m u p n) (nth aP u.2.2.1 (l.length:Int)).2.2.1 (rH u p l) l (cP m (nth aP u.2.2.1 (l.length:Int)).2.2.1) 0
def zR:Rs:=((0,(0,(0,([],())))),(0,([],(false,()))))
def gM(ch:Ru→Qy (Bool×List In))(bd:Ru→List In→In)(R:List Ru)(a:Int):Nat→Nat→Qy Rs
 |0,_=>.ret zR
 |n+1,c=>if(nth bG R (c:Int)).2.1=a then(ch (nth bG R (c:Int))).bind fun y=>if y.1=true then .ret (bd (nth bG R (c:Int)) y.2,((c:Int),(y.2,(true,())))) else gM ch bd R a n (c+1) else gM ch bd R a n (c+1)
def jW(s:cp)(m:DM)(look:Pl→Qy Rs)(p:Pl):Qy Rs:=
 if aQ (.int .i64) .bool p.1 (aY m)=true then gM (fun u=>dx look s m u p.2.1 u.2.2.1.length []) (fun u l=>jv s u p.2.1 l) s.2.2.2.1 p.1 s.2.2.2.1.length 0 else .ask p fun b x=>.ret (x,(0,([],(b,()))))
def Ce(s:cp)(m:DM):Nat→Pl→Qy Rs
 |0,_=>.ret zR
 |n+1,p=>jW s m (Ce s m n) p
variable{k1:Pl→Qy Rs}{k2:Pl→Qy Rs}
theorem pT{ch1 ch2:List In→Qy (Bool×List In)}{a:Int}{l:List In}(h:∀y,k1 (a,y)=k2 (a,y))(hc:∀x,ch1 (l++[x])=ch2 (l++[x]))(o:Int):∀n c,jw k1 ch1 a o l n c=jw k2 ch2 a o l n c
 |0,_=>rfl
 |
  n+1,c=>by
  unfold jw
  rw[h,pT h hc o n]
  simp only[hc]
theorem ov{s:cp}{m:DM}{u:Ru}(h:∀v∈u.2.2.1,∀y,k1 (v.2.2.1,y)=k2 (v.2.2.1,y))(p:Int):∀n l,l.length+n=u.2.2.1.length→dx k1 s m u p n l=dx k2 s m u p n l
 |0,_,_=>rfl
 |n+1,l,hl=>pT (h _ (dB (t:=aP) (l:=u.2.2.1) (dU l.length) (by omega))) (fun x=>ov h p n (l++[x]) (by grind)) _ _ _
theorem pU{c1 c2:Ru→Qy (Bool×List In)}{bd:Ru→List In→In}{R:List Ru}{a:Int}(h:∀u∈R,u.2.1=a→c1 u=c2 u):∀n c,c+n≤R.length→gM c1 bd R a n c=gM c2 bd R a n c
 |0,_,_=>rfl
 |
  n+1,c,hc=>by
  unfold gM
  rw[pU h n (c+1) (by omega)]
  split
  ·rename_i hu
   rw[h _ (dB (t:=bG) (l:=R) (dU c) (by omega)) hu]
  ·rfl
theorem sQ{s:cp}{m:DM}{p:Pl}(h:∀u∈s.2.2.2.1,u.2.1=p.1→∀v∈u.2.2.1,∀y,k1 (v.2.2.1,y)=k2 (v.2.2.1,y)):jW s m k1 p=jW s m k2 p:=by
 unfold jW
 rw[pU (fun u hu e=>ov (h u hu e) p.2.1 _ [] (eK _)) _ 0 (by omega)]
theorem pW{s:cp}(hr:∀u∈s.2.2.2.1,∀v∈u.2.2.1,lo.idxOf v.2.2.1<lo.idxOf u.2.1)(m:DM):∀n n' p,lo.idxOf p.1<n→lo.idxOf p.1<n'→Ce s m n p=Ce s m n' p
 |
  n+1,n'+1,p,h,h'=>sQ fun u hu e v hv y=>by
  have:=hr u hu v hv
  rw[e] at this
  exact pW hr m n n' _ (show lo.idxOf v.2.2.1<n by omega) (show lo.idxOf v.2.2.1<n' by omega)
def LQ(s:cp)(m:DM)(lo:Zf)(p:Pl):Qy Rs:=Ce s m (lo.idxOf p.1+1) p
theorem GY{s:cp}(hr:∀u∈s.2.2.2.1,∀v∈u.2.2.1,lo.idxOf v.2.2.1<lo.idxOf u.2.1)(m:DM)(p:Pl):LQ s m lo p=jW s m (LQ s m lo) p:=by
 show jW s m (Ce s m (lo.idxOf p.1)) p=_
 refine sQ fun u hu e v hv y=>?_
 have:=hr u hu v hv
 rw[e] at this
 exact pW hr m _ _ _ this (Nat.lt_succ_self _)
structure MY(w:bz)(PS:Zf)(U:List Pl)(ix:Ix)(d k:Int)(O:Pl→An):Prop where
 wy:WY w PS U ix
 ra:∀p:Pl,p.2.1∈PS→f87 (w.1,(iy w.1.1 ix p,())) p.1 p.2.1 p.2.2.1 d k=some (O p)
structure MX(w:bz)(lo PS:Zf)(U:List Pl)(ix:Ix)(m:DM)(d k:Int)(O:Pl→An)(L:Pl→Qy Rs):Prop where
 wx:WX w lo PS U ix
 my:MY w PS U ix d k O
 fix:∀p,L p=jW w.1.1 m L p
variable{w:bz} {lo PS:Zf} {U:List Pl} {ix:Ix} {m:DM} {d k:Int} {O:Pl→An} {L:Pl→Qy Rs}
def FG(r:Rs):Prop:=r.2.2.1.length≤3∧∀y∈r.2.2.1,y.2.2.2.1.length≤1000
theorem FG.zero:FG zR:=⟨ik _,fun y hy=>(by cases hy)⟩
structure MI(s:cp)(PS:Zf)(U:List Pl)(O:Pl→An)(L:Pl→Qy Rs)(fo:FM)(se:SM)(rs:List Rd):Prop where
 fi:FI s PS U fo se rs
 vl:∀e∈fo,e.2=((L e.1).run O).1∧(∀r∈((L e.1).run O).2,r∈rs)∧FG ((L e.1).run O).1
 si:SJ se rs
theorem MI.nil(s:cp)(PS:Zf)(U:List Pl)(O:Pl→An)(L:Pl→Qy Rs):MI s PS U O L [] [] []:=⟨FI.nil s PS U,fun e he=>(by cases he),fun r=>⟨fun h=>(by cases h),fun h=>(by cases h)⟩⟩
theorem MI.put{s:cp}{rs:List Rd}(h:MI s PS U O L fo se rs){p:Pl}(hf:FI s PS U (aX aK p ((L p).run O).1 fo) se' (cV rs ((L p).run O).2))(hs:SJ se' (cV rs ((L p).run O).2))(hg:FG ((L p).run O).1):MI s PS U O L (aX aK p ((L p).run O).1 fo) se' (cV rs ((L p).run O).2) where
 fi:=hf
 vl e he:=by
  rcases fj (kt:=aK) he with rfl|he
  ·simp_all[pS]
  ·exact⟨(h.vl e he).1,fun r hr=>(pS ..).2 (Or.inl ((h.vl e he).2.1 r hr)),(h.vl e he).2.2⟩
 si:=hs
def LP(w:bz)(PS:Zf)(U:List Pl)(ix:Ix)(m:DM)(d k:Int)(O:Pl→An)(L:Pl→Qy Rs)(b:Bool)(z:Unit)(p:Pl)(rs:List Rd)(r:bz×Ix×Int×Int×Bool×DM×Unit×FM×SM×Rs×List Rd):Prop:=
 ∃fo se,r=(w,ix,d,k,b,m,z,fo,se,((L p).run O).1,cV rs ((L p).run O).2)∧MI w.1.1 PS U O L fo se (cV rs ((L p).run O).2)∧(((L p).run O).1.2.2.2.1=true→FV w.1.1 PS ((L p).run O).1.1 p.1)∧FG ((L p).run O).1
theorem Sd(X:MY w PS U ix d k O)(q0:Q0)(q1:Q1)(p:Pl)(hf:L p=jW w.1.1 m L p)(b:Bool)(z:Unit){rs:List Rd}(h:MI w.1.1 PS U O L fo se rs)(hU:p∈U)(hP:p.2.1∈PS)
 (hd:aQ (.int .i64) .bool p.1 (aY m)=true→W (vf q0 q1 p w ix d k b m z fo se rs) (LP w PS U ix m d k O L b z p rs)):W (i7 q0 q1 p w ix d k b m z fo se rs) (LP w PS U ix m d k O L b z p rs):=by
 have hB:=hB
 unfold i7
 cases hp:bT aK p fo with
 |
  true=>
  rw[aA rfl]
  obtain⟨i,hi⟩:=qN (kt:=aK) (vt:=eE) rfl hp
  have he:=kB hi
  obtain⟨v1,v2,v3⟩:=h.vl _ he
  have v1:aQ aK eE p fo=((L p).run O).1:=v1
  have hx:=h.fi.ok _ he
  rw[v1] at hx ⊢
  have e:=vg _ _ v2
  exact⟨_,rfl,fo,se,by rw[e],by grind,hx,v3⟩
 |
  false=>
  rw[aC (by decide)]
  cases hder:aQ (.int .i64) .bool p.1 (aY m) with
  |
   true=>
   rw[aA rfl]
   refine bK.2 (oY.2 ((hd hder).mono fun r hr=>?_))
   obtain⟨fo',se',rfl,h',hx,hg3⟩:=hr
   refine⟨_,rfl,?_⟩
   rw[iC]
   dsimp only
   have hl:=h'.fi.len
   have hl2:=X.wy.len
   have hg:fo'.length≤(aX aK p ((L p).run O).1 fo').length:=GU (kt:=aK)
   have h1:=h'.fi.se
   have h2:=h'.fi.rs
   have e:=vg _ _ fun r hr=>(pS ((L p).run O).2 rs r).2 (Or.inr hr)
   rw[aA (show fo'.length+1≤aH by omega)]
   refine⟨_,rfl,_,_,rfl,?_,hx,hg3⟩
   have h3:MI w.1.1 PS U O L (aX aK p ((L p).run O).1 fo') se' (cV (cV rs ((L p).run O).2) ((L p).run O).2):=h'.put (by rw[e];exact h'.fi.put hU hx (by omega) (by omega)) (by rw[e];exact h'.si) hg3
   grind
  |
   false=>
   rw[aC (by decide)]
   obtain⟨M,y,x,n,se',rs',e1,e2,e3,hl,hr⟩:=Sa X.wy p d k b m z h.fi hp hU hP
   have e1':=GW X.wy p d k b m z fo se rs
   rw[e1'] at e1
   have eL:iy w.1.1 ix p=M:=by
    grind
   subst eL
   have eO:O p=(y,x,n):=kD ((X.ra p hP).symm.trans e2)
   have eq:(L p).run O=((x,(0,([],(y,())))),n):=by
    simp_all[jW,Qy.run]
   have e4:nj n=some n:=rfl
   obtain⟨fo2,se2,x2,rs2,er,h',hx⟩:=hr
   cases er
   have hfr:jO n se rs=some (se',rs'):=by
    simp_all[ia]
   obtain⟨s1,s2⟩:=rG n se rs se' rs' hfr h.si
   subst s1
   rw[e1',aM]
   dsimp only
   rw[iF,iF,iF,iF,e2,aM]
   dsimp only
   rw[e4,aM,e3,aM,aG]
   dsimp only
   rw[aA hl]
   have hg3:FG ((L p).run O).1:=by rw[eq];exact⟨ik _,fun y hy=>(by cases hy)⟩
   refine⟨_,rfl,_,_,by rw[eq],?_,by grind,hg3⟩
   have h3:MI w.1.1 PS U O L (aX aK p ((L p).run O).1 fo) se' (cV rs ((L p).run O).2):=h.put (by grind) (by grind) hg3
   grind
theorem Kd{u:Ru}{l:List In}(hN:NB w.1.1)(hw:u.2.2.2.1.length≤aH)(hR:RK (cR w.1.1 u))(hL:LI w.1.1 PS u l)(hl:l.length=u.2.2.1.length)(ix:Ix)(d k:Int)(b:Bool)(m:DM)(z:Unit)(fo:FM)(se:SM)(rs:List Rd):
 oe u w ix d k b m z l fo se rs=some (Cd w.1.1 u l,w,ix,d,k,b,m,z,l,fo,se,rs):=by
 obtain⟨y,hy⟩:=Tj hN hw hR hL hl
 have e:Cd w.1.1 u l=y:=by unfold Cd;rw[hy (w0 w.1.1) rfl none 0 0 false none () [] [] []]
 grind
theorem IN{u:Ru}{l:List In}(hw:u.2.2.2.2.1.length≤aH)(hR:RK (cR w.1.1 u))(hL:LI w.1.1 PS u l)(hl:l.length=u.2.2.1.length)(hf:1≤(cu w.1.1 u.2.1).length)(hf2:(cu w.1.1 u.2.1).length≤1000)(p:Int)(hp:p∈PS)(h0:(0:Int)∈PS)(hc:∀t∈u.2.2.2.2.1,t.2.2.1.2.2.2.2.1∈PS):
 FV w.1.1 PS (jv w.1.1 u p l) u.2.1∧∀ix d k b m z fo se rs,nv u p l w ix d k b m z fo se rs=some (w,ix,d,k,b,m,z,fo,se,rs,jv w.1.1 u p l):=by
 obtain⟨x,hx,hq,hy⟩:=NS hw hR hL hl hf hf2 p hp h0 hc
 have e:jv w.1.1 u p l=x:=by unfold jv;rw[hy (w0 w.1.1) rfl none 0 0 false none () [] [] []];exact hq
 grind
def CQ(w:bz)(PS:Zf)(U:List Pl)(ix:Ix)(m:DM)(d k:Int)(O:Pl→An)(L:Pl→Qy Rs)(b:Bool)(z:Unit)(u:Ru)(p:Int)(l:List In)(y:(Bool×List In)×List Rd)(rs:List Rd)(r:Bool×Ru×Int×bz×Ix×Int×Int×Bool×DM×Unit×FM×SM×List In×List Rd):Prop:=
 ∃fo se,r=(y.1.1,u,p,w,ix,d,k,b,m,z,fo,se,y.1.2,cV rs y.2)∧MI w.1.1 PS U O L fo se (cV rs y.2)∧(y.1.1=false→y.1.2=l)∧(y.1.1=true→LI w.1.1 PS u y.1.2∧y.1.2.length=u.2.2.1.length)
theorem NW(X:MX w lo PS U ix m d k O L)(q0:Q0)(q1:Q1)(p:Pl)(b:Bool)(z:Unit){rs:List Rd}(h:MI w.1.1 PS U O L fo se rs)(hP:p.2.1∈PS)(hm:aQ (.int .i64) .bool p.1 (aY m)=true)
 (hq:∀u∈w.1.1.2.2.2.1,u.2.1=p.1→∀fo se rs,MI w.1.1 PS U O L fo se rs→W (q1 (u,p.2.1,[],w,ix,d,k,b,m,z,fo,se,rs,())) (CQ w PS U ix m d k O L b z u p.2.1 [] ((dx L w.1.1 m u p.2.1 u.2.2.1.length []).run O) rs)):
 W (vf q0 q1 p w ix d k b m z fo se rs) (LP w PS U ix m d k O L b z p rs):=by
 have hB:=hB
 have hr:=X.wx.cg.sw.rules
 let Z:Nat→Rs×List Rd:=fun c=>(gM (fun u=>dx L w.1.1 m u p.2.1 u.2.2.1.length []) (fun u l=>jv w.1.1 u p.2.1 l) w.1.1.2.2.2.1 p.1 (w.1.1.2.2.2.1.length -c) c).run O
 have eZ:(L p).run O=Z 0:=by rw[X.fix p];unfold jW;grind
 unfold vf
 refine bK.2 (W.ct (B:=fun r=>(Z 0).1=zR∧∃fo' se',r=(w,ix,d,k,b,m,z,fo',se',0,0,0,0,false,cV rs (Z 0).2)∧MI w.1.1 PS U O L fo' se' (cV rs (Z 0).2)) (Q:=LP w PS U ix m d k O L b z p rs) ?_ (fun r hr=>?_) fun r hr=>hr)
 ·refine W.mono (rZ (L:=yh q0 q1) rfl (fun c(s:FM×SM×List Rd)(r:cK _ _)=>CT (fun r=>(Z c).1=zR∧∃fo' se',r=(w,ix,d,k,b,m,z,fo',se',0,0,0,0,false,cV s.2.2 (Z c).2)∧MI w.1.1 PS U O L fo' se' (cV s.2.2 (Z c).2)) (fun r=>∃fo' se',r=(w,ix,d,k,b,m,z,fo',se',(Z c).1,cV s.2.2 (Z c).2)∧MI w.1.1 PS U O L fo' se' (cV s.2.2 (Z c).2)∧FV w.1.1 PS (Z c).1.1 p.1∧FG (Z c).1) r) w.1.1.2.2.2.1.length (fun c(s:FM×SM×List Rd)=>(w.1.1.2.2.2.1,(w.1.1.2.2.2.1.length:Int),(c:Int),w,ix,d,k,b,m,z,s.1,s.2.1,p,0,0,0,0,false,s.2.2)) (fun _ s=>MI w.1.1 PS U O L s.1 s.2.1 s.2.2) ?step ?stop _ 0 (fo,se,rs) (by omega) (by omega) h) fun r hr=> ?fin
  case fin=>
   refine CT.mono (fun _ h=>h) (fun r h=>?_) r hr
   obtain⟨fo',se',rfl,h',hx,hg⟩:=h
   unfold LP
   grind
  case step=>
   rintro rec c ⟨fo,se,rs⟩ hc hI kk
   dsimp only at hI ⊢
   have hw2:=nE c (by omega)
   have hc1:(c:Int)<(w.1.1.2.2.2.1.length:Int):=by omega
   have hmm:=dB (t:=bG) (l:=w.1.1.2.2.2.1) (dU c) hc1
   rw[cz hc1,dZ c,aA hc1]
   have eq:Z c=(if(nth bG w.1.1.2.2.2.1 (c:Int)).2.1=p.1 then(dx L w.1.1 m (nth bG w.1.1.2.2.2.1 (c:Int)) p.2.1 (nth bG w.1.1.2.2.2.1 (c:Int)).2.2.1.length []).bind fun y=>if y.1=true then .ret (jv w.1.1 (nth bG w.1.1.2.2.2.1 (c:Int)) p.2.1 y.2,((c:Int),(y.2,(true,())))) else gM (fun u=>dx L w.1.1 m u p.2.1 u.2.2.1.length []) (fun u l=>jv w.1.1 u p.2.1 l) w.1.1.2.2.2.1 p.1 (w.1.1.2.2.2.1.length -(c+1)) (c+1) else gM (fun u=>dx L w.1.1 m u p.2.1 u.2.2.1.length []) (fun u l=>jv w.1.1 u p.2.1 l) w.1.1.2.2.2.1 p.1 (w.1.1.2.2.2.1.length -(c+1)) (c+1):Qy Rs).run O:=by
    show(gM _ _ _ _ _ _).run O=_
    rw[show w.1.1.2.2.2.1.length -c=(w.1.1.2.2.2.1.length -(c+1))+1 by omega]
    rfl
   rw[eq]
   generalize nth bG w.1.1.2.2.2.1 (c:Int)=u at hmm ⊢
   by_cases hu:u.2.1=p.1
   ·rw[aC (show¬(!decide (u.2.1=p.1))=true by simp[hu]),aA hu,Qy.run_bind]
    obtain⟨r,er,fo',se',rfl,h',y0,y1⟩:=hq u hmm hu fo se rs hI
    have ea:ui q0 q1 u p.2.1 w ix d k b m z fo se rs=(if !((dx L w.1.1 m u p.2.1 u.2.2.1.length []).run O).1.1 then(some (false,w,ix,d,k,b,m,z,fo',se',([]:List In),cV rs ((dx L w.1.1 m u p.2.1 u.2.2.1.length []).run O).2)) else(some (true,w,ix,d,k,b,m,z,fo',se',((dx L w.1.1 m u p.2.1 u.2.2.1.length []).run O).1.2,cV rs ((dx L w.1.1 m u p.2.1 u.2.2.1.length []).run O).2))):=by
     unfold ui;grind
    rw[ea]
    generalize (dx L w.1.1 m u p.2.1 u.2.2.1.length []).run O=y at h' y0 y1 ⊢
    obtain⟨⟨y,l⟩,t⟩:=y
    dsimp only at h' y0 y1 ⊢
    cases y with
    |
     false=>
     rw[aA (show(!false)=true from rfl),aM]
     dsimp only
     rw[aC (by decide),aC (by decide),hw2,dT]
     exact kk (fo',se',cV rs t) h'
    |
     true=>
     obtain⟨hLI,hlen⟩:=y1 rfl
     have hR:=X.wx.cg.tg.rules u hmm
     have hf:=X.wx.cg.tg.fields _ (dB (t:=bF) (l:=w.1.1.2.2.1) hR.h0 hR.h1)
     have hs:=(X.wx.cg.sw.rl u hmm).2.2
     obtain⟨hx,hbu⟩:=IN (w:=w) (by omega) hR hLI hlen hf (X.wx.fl _ hR.h0 hR.h1) p.2.1 hP X.wx.zero (X.wx.consts u hmm)
     rw[aC (show¬(!true)=true by decide),aM]
     dsimp only
     rw[aA rfl,aA rfl,hbu ix d k b m z fo' se',aM]
     unfold Qy.run
     rw[fH]
     refine⟨_,rfl,fo',se',rfl,h',hu▸hx,?_,fun y hy=>?_⟩
     ·show l.length≤3
      rw[hlen];exact hR.n3
     ·obtain⟨j,hj,rfl⟩:=jz hy
      have hj2:j<l.length:=hj
      have hF:FO (cR w.1.1 u) j:=hR.fo j (show j<u.2.2.1.length by omega)
      have:=(hLI.ok (j:Int) (dU j) (by omega)).1
      rw[cJ (t:=bp) hj2] at this
      rw[this]
      exact X.wx.fl _ hF.s0 hF.s1
   ·rw[aA (show(!decide (u.2.1=p.1))=true by simp[hu]),aC hu,hw2]
    exact kk (fo,se,rs) hI
  case stop=>
   rintro rec ⟨fo,se,rs⟩ hI
   dsimp only at hI ⊢
   rw[aC (by grind)]
   have e:Z w.1.1.2.2.2.1.length=(zR,[]):=by
    show(gM _ _ _ _ (w.1.1.2.2.2.1.length -w.1.1.2.2.2.1.length) _).run O=_
    rw[Nat.sub_self];rfl
   rw[e]
   exact⟨_,rfl,rfl,fo,se,rfl,hI⟩
 ·obtain⟨e0,fo',se',rfl,h'⟩:=hr
  unfold LP
  rw[eZ,e0]
  exact⟨_,rfl,fo',se',rfl,h',fun h=>(by cases h),FG.zero⟩
variable{w:bz} {lo PS:Zf} {U:List Pl} {ix:Ix} {m:DM} {d k:Int} {O:Pl→An} {L:Pl→Qy Rs}
abbrev CH:Ru×Int×bz×Ix×Int×Int×Bool×DM×Unit×FM×SM×(List In)×(List Rd)→Option (Bool×Ru×Int×bz×Ix×Int×Int×Bool×DM×Unit×FM×SM×List In×List Rd):=fun x=>some (false,x.1,x.2.1,x.2.2.1,x.2.2.2.1,x.2.2.2.2.1,x.2.2.2.2.2.1,x.2.2.2.2.2.2.1,x.2.2.2.2.2.2.2.1,x.2.2.2.2.2.2.2.2.1,x.2.2.2.2.2.2.2.2.2.1,x.2.2.2.2.2.2.2.2.2.2.1,x.2.2.2.2.2.2.2.2.2.2.2.1,x.2.2.2.2.2.2.2.2.2.2.2.2)
theorem NX(q0:Q0)(q1:Q1)(u:Ru)(p:Int)(l:List In)(b:Bool)(z:Unit)(fo:FM)(se:SM)(rs:List Rd)(hlt:l.length<u.2.2.1.length)
 (ho:(nth aP u.2.2.1 (l.length:Int)).2.2.2.1.2.2.1= -1∨(0≤(nth aP u.2.2.1 (l.length:Int)).2.2.2.1.2.2.1∧(nth aP u.2.2.1 (l.length:Int)).2.2.2.1.2.2.1<(l.length:Int)∧0≤(nth aP u.2.2.1 (l.length:Int)).2.2.2.1.2.2.2.1∧(nth aP u.2.2.1 (l.length:Int)).2.2.2.1.2.2.2.1<((nth bp l (nth aP u.2.2.1 (l.length:Int)).2.2.2.1.2.2.1).2.2.2.1.length:Int))):
 jq q0 q1 u p l w ix d k b m z fo se rs=aI (U:=Ru×Int×bz×Ix×Int×Int×Bool×DM×Unit×FM×SM×(List In)×(List Rd)) (nn q0 q1 (Int.toNat ((cP m (nth aP u.2.2.1 (l.length:Int)).2.2.1:Nat):Int)+1) (rH u p l,((cP m (nth aP u.2.2.1 (l.length:Int)).2.2.1:Nat):Int),0,u,p,w,ix,d,k,b,m,z,fo,se,nth aP u.2.2.1 (l.length:Int),l,rs)) CH:=by
 unfold jq rH cP
 rw[aC (show¬decide ((l.length:Int)=(u.2.2.1.length:Int))=true by grind),dZ _,aA (show(l.length:Int)<(u.2.2.1.length:Int) by omega)]
 generalize nth aP u.2.2.1 (l.length:Int)=v at ho
 by_cases hv:v.2.2.2.1.2.2.1= -1
 ·rw[aC (show¬(!decide (v.2.2.2.1.2.2.1=(-1:Int)))=true by simp[hv]),aG,aA hv]
  dsimp only
  by_cases hm:aQ (.int .i64) .bool v.2.2.1 (aY m)=true
  ·simp_all[aG]
  simp_all[aG]
 ·obtain⟨a1,a2,a3,a4⟩:=ho.resolve_left hv
  rw[aA (show(!decide (v.2.2.2.1.2.2.1=(-1:Int)))=true by grind),aA a1,aA a2,aA a3,aA a4,aG,aC hv]
  dsimp only
  by_cases hm:aQ (.int .i64) .bool v.2.2.1 (aY m)=true
  ·simp_all[aG]
  simp_all[aG]
theorem NY(X:MX w lo PS U ix m d k O L)(q0:Q0)(q1:Q1)(u:Ru)(hu:u∈w.1.1.2.2.2.1)(p:Int)(l:List In)(b:Bool)(z:Unit){rs:List Rd}(h:MI w.1.1 PS U O L fo se rs)(hP:p∈PS)(hL:LI w.1.1 PS u l)
 (hq0:∀y:Pl,y∈U→y.2.1∈PS→l.length<u.2.2.1.length→y.1=(nth aP u.2.2.1 (l.length:Int)).2.2.1→∀fo se rs,MI w.1.1 PS U O L fo se rs→W (q0 (y,w,ix,d,k,b,m,z,fo,se,rs,())) (LP w PS U ix m d k O L b z y rs))
 (hq1:∀l',LI w.1.1 PS u l'→l'.length=l.length+1→∀fo se rs,MI w.1.1 PS U O L fo se rs→W (q1 (u,p,l',w,ix,d,k,b,m,z,fo,se,rs,())) (CQ w PS U ix m d k O L b z u p l' ((dx L w.1.1 m u p (u.2.2.1.length -l'.length) l').run O) rs)):
 W (jq q0 q1 u p l w ix d k b m z fo se rs) (CQ w PS U ix m d k O L b z u p l ((dx L w.1.1 m u p (u.2.2.1.length -l.length) l).run O) rs):=by
 have hB:=hB
 have hR:RK (cR w.1.1 u):=X.wx.cg.tg.rules u hu
 by_cases hl:l.length=u.2.2.1.length
 ·have hdl:decide ((l.length:Int)=(u.2.2.1.length:Int))=true:=cD (by omega)
  rw[show u.2.2.1.length -l.length=0 by omega]
  refine⟨(Cd w.1.1 u l,u,p,w,ix,d,k,b,m,z,fo,se,l,rs),?_,fo,se,rfl,h,fun _=>rfl,fun _=>⟨hL,hl⟩⟩
  unfold jq
  rw[aA hdl,Kd X.wx.cg.sw.nb (X.wx.cg.sw.rl u hu).2.1 hR hL hl];rfl
 ·have hll:=hL.len
  have hlt:l.length<u.2.2.1.length:=by omega
  have hn3:u.2.2.1.length≤3:=hR.n3
  have hF:FO (cR w.1.1 u) l.length:=hR.fo l.length hlt
  have hs0:0≤(nth aP u.2.2.1 (l.length:Int)).2.2.1:=hF.s0
  have hs1:(nth aP u.2.2.1 (l.length:Int)).2.2.1<(w.1.1.2.2.1.length:Int):=hF.s1
  have hpush:∀x:In,FV w.1.1 PS x (nth aP u.2.2.1 (l.length:Int)).2.2.1→LI w.1.1 PS u (l++[x]):=fun x hx=>hL.push hlt hx
  have ho:rH u p l∈PS∧((nth aP u.2.2.1 (l.length:Int)).2.2.2.1.2.2.1= -1∨(0≤(nth aP u.2.2.1 (l.length:Int)).2.2.2.1.2.2.1∧(nth aP u.2.2.1 (l.length:Int)).2.2.2.1.2.2.1<(l.length:Int)∧0≤(nth aP u.2.2.1 (l.length:Int)).2.2.2.1.2.2.2.1∧(nth aP u.2.2.1 (l.length:Int)).2.2.2.1.2.2.2.1<((nth bp l (nth aP u.2.2.1 (l.length:Int)).2.2.2.1.2.2.1).2.2.2.1.length:Int))):=by
   unfold rH
   by_cases hvar:(nth aP u.2.2.1 (l.length:Int)).2.2.2.1.2.2.1= -1
   ·grind
   ·rcases hF.of with h1|h1
    ·grind
    ·obtain⟨a1,a2,a3,a4,a5⟩:=yi hL (mr _) h1
     grind
  rw[NX q0 q1 u p l b z fo se rs hlt ho.2]
  obtain⟨ho,_⟩:=ho
  rw[show u.2.2.1.length -l.length=(u.2.2.1.length -(l.length+1))+1 by omega]
  unfold dx
  have hn4:cP m (nth aP u.2.2.1 (l.length:Int)).2.2.1≤4:=by unfold cP;grind
  have hch:∀x:In,LI w.1.1 PS u (l++[x])→∀fo se rs,MI w.1.1 PS U O L fo se rs→W (q1 (u,p,l++[x],w,ix,d,k,b,m,z,fo,se,rs,())) (CQ w PS U ix m d k O L b z u p (l++[x]) ((dx L w.1.1 m u p (u.2.2.1.length -(l.length+1)) (l++[x])).run O) rs):=fun x hx fo se rs hI=>by
   grind
  generalize dx L w.1.1 m u p (u.2.2.1.length -(l.length+1))=ch at hch ⊢
  generalize cP m (nth aP u.2.2.1 (l.length:Int)).2.2.1=n at hn4 ⊢
  generalize rH u p l=o at ho ⊢
  generalize nth aP u.2.2.1 (l.length:Int)=v at hs0 hs1 hpush hq0 ⊢
  let Y:Nat→(Bool×List In)×List Rd:=fun c=>(jw L ch v.2.2.1 o l (n -c) c).run O
  show W _ (CQ w PS U ix m d k O L b z u p l (Y 0) rs)
  refine bK.2 (W.ct (W.mono (rZ (L:=nn q0 q1) rfl (fun c(s:FM×SM×List Rd)(r:cK _ _)=>CT (fun r=>(Y c).1=(false,l)∧∃fo' se',r=(u,p,w,ix,d,k,b,m,z,fo',se',l,cV s.2.2 (Y c).2)∧MI w.1.1 PS U O L fo' se' (cV s.2.2 (Y c).2)) (fun r=>(Y c).1.1=true∧∃fo' se',r=(true,u,p,w,ix,d,k,b,m,z,fo',se',(Y c).1.2,cV s.2.2 (Y c).2)∧MI w.1.1 PS U O L fo' se' (cV s.2.2 (Y c).2)∧LI w.1.1 PS u (Y c).1.2∧(Y c).1.2.length=u.2.2.1.length) r) n (fun c(s:FM×SM×List Rd)=>(o,(n:Int),(c:Int),u,p,w,ix,d,k,b,m,z,s.1,s.2.1,v,l,s.2.2)) (fun _ s=>MI w.1.1 PS U O L s.1 s.2.1 s.2.2) ?step ?stop (Int.toNat (n:Int)+1) 0 (fo,se,rs) (by omega) (by omega) h) fun r hr=>hr) (fun r hr=>?_) fun r hr=>?_)
  case step=>
   rintro rec c ⟨fo,se,rs⟩ hc hI kk
   dsimp only at hI ⊢
   have hw2:=nE c (by omega)
   have hcn:decide ((c:Int)<(n:Int))=true:=cD (by omega)
   have hl48:∀x:In,(l.length+List.length [x])*48≤aH:=fun x=>by grind
   have eY:Y c=((L (v.2.2.1,(o,((c:Int),())))).bind fun x=>if x.2.2.2.1=true then(ch (l++[x.1])).bind fun y=>if y.1=true then .ret y else jw L ch v.2.2.1 o l (n -(c+1)) (c+1) else jw L ch v.2.2.1 o l (n -(c+1)) (c+1):Qy (Bool×List In)).run O:=by
    show(jw _ _ _ _ _ _ _).run O=_
    rw[show n -c=(n -(c+1))+1 by omega]
    rfl
   rw[eY,Qy.run_bind,aA hcn]
   obtain⟨r,er,fo',se',rfl,h',hx,_⟩:=hq0 (v.2.2.1,(o,((c:Int),()))) (X.wx.pl _ _ _ hs0 hs1 ho (dU c) (by omega)) ho hlt rfl fo se rs hI
   rw[er,aM]
   dsimp only at h' hx ⊢
   generalize (L (v.2.2.1,(o,((c:Int),())))).run O=x at h' hx ⊢
   obtain⟨x,t⟩:=x
   dsimp only at h' hx ⊢
   cases hk:x.2.2.2.1 with
   |
    false=>
    rw[aC (by decide),aC (by decide),hw2,dT]
    exact kk (fo',se',cV rs t) h'
   |
    true=>
    rw[aA rfl,aA (hl48 x.1),aA rfl,Qy.run_bind]
    obtain⟨r,er2,fo2,se2,rfl,h2,y0,y1⟩:=hch x.1 (hpush x.1 (hx hk)) fo' se' (cV rs t) h'
    rw[er2,aM]
    generalize (ch (l++[x.1])).run O=y at h2 y0 y1 ⊢
    obtain⟨⟨y,l2⟩,t2⟩:=y
    dsimp only at h2 y0 y1 ⊢
    cases y with
    |
     true=>
     rw[aA rfl,aA rfl]
     unfold Qy.run
     rw[fH]
     rw[dT]
     exact⟨_,rfl,rfl,fo2,se2,rfl,h2,y1 rfl⟩
    |
     false=>
     have e:=y0 rfl
     subst e
     have e1:bq (((l++[x.1]).length:Int) -(1:Int))=(l.length:Int):=by
      rw[mb,oA]
      rw[gZ (by omega) (by omega)]
      omega
     have e3:(l.length:Int)≤((l++[x.1]).length:Int):=by rw[mb,oA];omega
     have ff:¬false=true:=by decide
     rw[aC ff,e1,dZ _,aA e3,jy,Nat.sub_zero,List.take_left,hw2,aC ff,dT,dT]
     exact kk (fo2,se2,cV (cV rs t) t2) h2
  case stop=>
   rintro rec ⟨fo,se,rs⟩ hI
   dsimp only at hI ⊢
   rw[aC (by grind)]
   have e:Y n=((false,l),[]):=by
    show(jw _ _ _ _ _ (n -n) _).run O=_
    rw[Nat.sub_self];rfl
   rw[e]
   exact⟨_,rfl,rfl,fo,se,rfl,hI⟩
  ·obtain⟨e0,fo',se',rfl,h'⟩:=hr
   exact⟨_,rfl,fo',se',by rw[e0],h',fun _=>by rw[e0],fun h=>by grind⟩
  ·obtain⟨e0,fo',se',rfl,h',h2⟩:=hr
   exact⟨fo',se',by rw[e0],h',(fun h=>by grind),fun _=>h2⟩
theorem WO(X:MX w lo PS U ix m d k O L)(b:Bool)(z:Unit):∀n:Nat,
 (∀(p:Pl) fo se rs,MI w.1.1 PS U O L fo se rs→p∈U→p.2.1∈PS→5*(lo.idxOf p.1+1)≤n→W ((eU n).1 (p,w,ix,d,k,b,m,z,fo,se,rs,())) (LP w PS U ix m d k O L b z p rs))∧
 (∀u∈w.1.1.2.2.2.1,∀(q:Int) l fo se rs,MI w.1.1 PS U O L fo se rs→q∈PS→LI w.1.1 PS u l→5*lo.idxOf u.2.1+(u.2.2.1.length -l.length)+1≤n→W ((eU n).2 (u,q,l,w,ix,d,k,b,m,z,fo,se,rs,())) (CQ w PS U ix m d k O L b z u q l ((dx L w.1.1 m u q (u.2.2.1.length -l.length) l).run O) rs)):=by
 intro n
 induction n with
 |zero=>grind
 |
  succ n ih=>
  refine⟨fun p fo se rs h hU hP hn=>?_,fun u hu q l fo se rs h hP hL hn=>?_⟩
  ·exact Sd X.my (eU n).1 (eU n).2 p (X.fix p) b z h hU hP fun hm=>NW X _ _ p b z h hP hm fun u hu hup fo se rs h=>ih.2 u hu p.2.1 [] fo se rs h hP (LI.nil _ _ _) (by
    have hn3:u.2.2.1.length≤3:=(X.wx.cg.tg.rules u hu).n3
    grind)
  ·exact NY X (eU n).1 (eU n).2 u hu q l b z h hP hL (fun y hy hyP hlt hy1 fo se rs h=>ih.1 y fo se rs h hy hyP (by
    have hpre:=X.wx.cg.rk.pre u hu _ (dB (t:=aP) (l:=u.2.2.1) (dU l.length) (show(l.length:Int)<(u.2.2.1.length:Int) by omega))
    grind)) fun l' hL' hl' fo se rs h=>ih.2 u hu q l' fo se rs h hP hL' (by
    have:=hL'.len
    omega)
theorem Cf(X:MX w lo PS U ix m d k O L)(b:Bool)(z:Unit)(p:Pl){rs:List Rd}(h:MI w.1.1 PS U O L fo se rs)(hU:p∈U)(hP:p.2.1∈PS):W (lK p w ix d k b m z fo se rs) (LP w PS U ix m d k O L b z p rs):=by
 have hl:=X.wx.cg.rk.len
 have hm:=X.wx.cg.tg.many
 have hi:lo.idxOf p.1≤lo.length:=List.idxOf_le_length
 exact(WO X b z iw).1 p fo se rs h hU hP (by show _≤18446744073709551616;omega)
theorem Cg(X:MY w PS U ix d k O)(b:Bool)(z:Unit)(p:Pl)(hf:L p=jW w.1.1 m L p)(hm:¬aQ (.int .i64) .bool p.1 (aY m)=true){rs:List Rd}(h:MI w.1.1 PS U O L fo se rs)(hU:p∈U)(hP:p.2.1∈PS):W (lK p w ix d k b m z fo se rs) (LP w PS U ix m d k O L b z p rs):=by
 have key:∀n,W ((eU (n+1)).1 (p,w,ix,d,k,b,m,z,fo,se,rs,())) (LP w PS U ix m d k O L b z p rs):=fun n=>Sd X (eU n).1 (eU n).2 p hf b z h hU hP fun h=>absurd h hm
 exact key 18446744073709551615
theorem Ch(X:MY w PS U ix d k O)(b:Bool)(z:Unit)(p:Pl){rs:List Rd}(h:MI w.1.1 PS U O L fo se rs)(hU:p∈U)(hP:p.2.1∈PS)(ho:W (lK p w ix d k b m z fo se rs) (LP w PS U ix m d k O L b z p rs)):W (dL p w ix d k b m z fo se rs) (LP w PS U ix m d k O L b z p rs):=by
 suffices hW:∃r,dL p w ix d k b m z fo se rs=some r by
  grind [J2]
 have ho:=ho.imp fun r h=>h.1
 unfold dL
 cases hp:bT aK p fo with
 |true=>grind
 |
  false=>
  rw[aC (by decide)]
  split
  ·rw[R9];exact ho
  ·obtain⟨M,y,x,n,se',rs',e1,e2,e3,hl,_⟩:=Sa X.wy p d k b m z h.fi hp hU hP
   have e4:nj n=some n:=rfl
   grind
abbrev Ky:=cM
abbrev Fa:=gF
abbrev ib(a p i:Int)(c:Nat):Ky:=(a,(p,(bq ((bq ((16:Int)*i))+(c:Int)),())))
abbrev ky(a p i d:Int)(c:Nat):Rd:=(ib a p i c,(d,(bq (d+(1:Int)),())))
def sg(d:Int)(r:Rd):Rd:=(r.1,(d,(bq (d+(1:Int)),())))
def IP(s:cp)(a:Int):Bool:=(f117 s a).getD false
def zT(p i:Int):Bool:=(f118 p i).getD false
def Ke(s:cp)(a c x:Int):Bool:=(f122 s a c x).getD false
def zI:In:=(0,(0,(0,([],()))))
def k7(s:cp)(V:Ky→Int×Bool)(a p i d:Int):Nat→Nat→List Int→List Rd→An
 |0,_,t,rs=>(true,(a,(p,(i,(t,())))),rs)
 |n+1,c,t,rs=>if((V (ib a p i c)).2&&Ke s a c (V (ib a p i c)).1)=true then k7 s V a p i d n (c+1) (t++[(V (ib a p i c)).1]) (rs++[ky a p i d c]) else(false,zI,rs++[ky a p i d c])
def oS(s:cp)(V:Ky→Int×Bool)(a p i d:Int):An:=
 if IP s a=true∧zT p i=true∧0≤d∧d<1024 then k7 s V a p i d ((cu s a).length -1) 1 [p] [] else(false,zI,[])
theorem vj{s:cp}{V:Ky→Int×Bool}{a p i d:Int}:∀(n c:Nat)(t:Zf)(rs:List Rd),(∀r∈rs,r∈(k7 s V a p i d n c t rs).2.2)∧∀r∈(k7 s V a p i d n c t rs).2.2,r∈rs∨∃e,c≤e∧e<c+n∧r=ky a p i d e
 |0,_,_,_=>⟨fun _ h=>h,fun _ h=>Or.inl h⟩
 |
  n+1,c,t,rs=>by
  unfold k7
  have hl:∀r∈rs++[ky a p i d c],r∈rs∨∃e,c≤e∧e<c+(n+1)∧r=ky a p i d e:=fun r hr=>(List.mem_append.1 hr).imp id fun h=>⟨c,dN _,by omega,List.mem_singleton.1 h⟩
  split
  ·obtain⟨h1,h2⟩:=vj (s:=s) (V:=V) (a:=a) (p:=p) (i:=i) (d:=d) n (c+1) (t++[(V (ib a p i c)).1]) (rs++[ky a p i d c])
   grind
  grind
variable{V':Ky→Int×Bool}{d':Int}
theorem Ci{s:cp}{V:Ky→Int×Bool}{a p i d:Int}:∀(n c:Nat)(t:Zf)(rs:List Rd),(∀r∈(k7 s V a p i d n c t rs).2.2,V' r.1=V r.1)→k7 s V' a p i d' n c t (rs.map (sg d'))=((k7 s V a p i d n c t rs).1,(k7 s V a p i d n c t rs).2.1,(k7 s V a p i d n c t rs).2.2.map (sg d'))
 |0,_,_,_,_=>rfl
 |
  n+1,c,t,rs,h=>by
  have hm:ky a p i d c∈(k7 s V a p i d (n+1) c t rs).2.2:=by
   unfold k7
   split
   ·simp_all[vj]
   grind
  have e:V' (ib a p i c)=V (ib a p i c):=h _ hm
  have em:rs.map (sg d')++[ky a p i d' c]=(rs++[ky a p i d c]).map (sg d'):=by rw[im];rfl
  unfold k7 at h ⊢
  rw[e,em]
  split
  ·rename_i hc
   rw[aA hc] at h
   exact Ci n (c+1) _ _ h
  ·rfl
theorem Kf{s:cp}{V:Ky→Int×Bool}{a p i d:Int}{r:Rd}(h:r∈(oS s V a p i d).2.2):(∃c,c<(cu s a).length∧r=ky a p i d c)∧IP s a=true∧zT p i=true∧0≤d∧d<1024:=by
 unfold oS at h
 split at h
 ·rename_i hc
  refine⟨?_,hc⟩
  rcases(vj _ _ _ _).2 r h with h|⟨e,e1,e2,e3⟩<;>grind
 grind
theorem Cj{s:cp}{V:Ky→Int×Bool}{a p i d:Int}(hd:0≤d∧d<1024↔0≤d'∧d'<1024)(h:∀r∈(oS s V a p i d).2.2,V' r.1=V r.1):oS s V' a p i d'=((oS s V a p i d).1,(oS s V a p i d).2.1,(oS s V a p i d).2.2.map (sg d')):=by
 unfold oS at h ⊢
 by_cases hc:IP s a=true∧zT p i=true∧0≤d∧d<1024
 ·rw[aA hc] at h ⊢
  rw[aA ⟨hc.1,hc.2.1,hd.1 hc.2.2⟩]
  exact Ci _ _ _ [] h
 grind
theorem Kg{s:cp}{V:Ky→Int×Bool}{a p i d:Int}:(oS s V a p i d).2.2.map (sg d)=(oS s V a p i d).2.2:=by
 have h:=Cj (s:=s) (V:=V) (V':=V) (a:=a) (p:=p) (i:=i) Iff.rfl (d:=d) fun _ _=>rfl
 grind
theorem IQ(v:bz)(s:cp)(hN:NB s)(hl:v.2.1.length≤aH)(c:Nat)(a p i d k:Int)(rs:List Rd)(hr:(rs.length+1)*40≤aH):
 nV (c:Int) a p i d v k s rs=some ((tX v.2.1 (ib a p i c) d k).1,((tX v.2.1 (ib a p i c) d k).2&&Ke s a c (tX v.2.1 (ib a p i c) d k).1),a,p,i,d,v,k,s,rs++[ky a p i d c]):=by
 have e:yF v.2.1 (a,(p,(bq ((bq ((16:Int)*i))+(c:Int)),()))) d k=some (tX v.2.1 (ib a p i c) d k):=aA hl
 unfold nV f120
 rw[aM,aA (by grind),e,aM]
 generalize tX v.2.1 (ib a p i c) d k=r
 obtain⟨x,b⟩:=r
 dsimp only
 cases b with
 |false=>rfl
 |
  true=>
  obtain⟨q,hq⟩:=sN s hN a (c:Int) x
  simp_all[Ke]
theorem GZ(p i:Int):f118 p i=some (zT p i)∧(zT p i=true→0≤i∧i<4):=by
 have hs:∃z,f118 p i=some z∧(z=true→0≤i∧i<4):=by
  unfold f118
  have no:∀y:Zm,y=some false→∃z,y=some z∧(z=true→0≤i∧i<4):=fun y hy=>⟨false,hy,fun h=>(by cases h)⟩
  by_cases i0:0≤i
  ·by_cases i1:i<4
   ·have yes:∀y:Zm,(∃z,y=some z)→∃z,y=some z∧(z=true→0≤i∧i<4):=fun y ⟨z,hz⟩=>⟨z,hz,fun _=>⟨i0,i1⟩⟩
    apply yes
    refine kc ?_ fun v=>⟨v,rfl⟩
    repeat' (first|exact⟨_,rfl⟩|split)
   simp_all
  simp_all[dp]
 grind [zT]
theorem NZ(v:bz)(hN:NB v.1.1)(hR:v.1.1.2.2.2.1.length≤aH)(hF:∀a,0≤a→a<(v.1.1.2.2.1.length:Int)→(cu v.1.1 a).length≤1000)(hl:v.2.1.length≤aH)(a p i d k:Int):
 f87 v a p i d k=some (oS v.1.1 (fun q=>tX v.2.1 q d k) a p i d):=by
 have hB:=hB
 suffices hW:W (f87 v a p i d k) fun r=>r=oS v.1.1 (fun q=>tX v.2.1 q d k) a p i d by
  obtain⟨r,e,rfl⟩:=hW
  exact e
 obtain⟨b,e,hb⟩:=ml v.1.1 hR a
 have eb:IP v.1.1 a=b:=by unfold IP;grind
 obtain⟨hz,_⟩:=GZ p i
 unfold f87 oS
 rw[e,aM,eb]
 cases b with
 |false=>exact⟨_,rfl,(aC fun h=>(by cases h.1)).symm⟩
 |
  true=>
  obtain⟨a0,a1,a2⟩:=hb rfl
  rw[aC (by decide),hz,aM]
  cases zT p i with
  |false=>exact⟨_,rfl,(aC fun h=>(by grind)).symm⟩
  |
   true=>
   rw[aC (by decide)]
   by_cases d0:d<0
   ·rw[cz d0];exact⟨_,rfl,(aC fun h=>by omega).symm⟩
   ·rw[aC (show¬decide (d<(0:Int))=true by grind)]
    by_cases d1:(1024:Int)≤d
    ·rw[cD d1];exact⟨_,rfl,(aC fun h=>by omega).symm⟩
    ·rw[dp d1,aM,aC (by decide),aG,aA ⟨rfl,rfl,by omega,by omega⟩]
     dsimp only
     have hFa:=hF a a0 a1
     have e:(nth bF v.1.1.2.2.1 a).2.2.2.2.1=cu v.1.1 a:=rfl
     let Y:Nat→List Int→List Rd→An:=fun c t s=>k7 v.1.1 (fun q=>tX v.2.1 q d k) a p i d ((cu v.1.1 a).length -c) c t s
     refine bK.2 (W.ct (W.mono (rZ (L:=FY) rfl (fun c(u:List Int×List Rd)(r:cK _ _)=>CT (fun r=>∃t s,r=(a,p,i,0,0,0,t,s)∧Y c u.1 u.2=(true,(a,(p,(i,(t,())))),s)) (fun r=>r=Y c u.1 u.2) r) (cu v.1.1 a).length (fun c(u:List Int×List Rd)=>((c:Int),v,a,p,i,d,k,0,0,0,v.1.1,u.1,u.2)) (fun c u=>u.1.length≤c∧u.2.length≤c) ?step ?stop iw 1 ([p],[]) (by show _<18446744073709551616;omega) (by omega) ⟨dN _,ik _⟩) fun r hr=>hr) (fun r hr=>?_) fun r hr=>hr)
     case step=>
      rintro rec c ⟨t,s⟩ hc ⟨ht,hs⟩ kk
      dsimp only at ht hs ⊢
      have hw2:=nE c (by omega)
      rw[e,aA a0,aA a1,cz (by omega),IQ v v.1.1 hN hl c a p i d k s (by omega),aM]
      have eY:Y c t s=if((tX v.2.1 (ib a p i c) d k).2&&Ke v.1.1 a c (tX v.2.1 (ib a p i c) d k).1)=true then Y (c+1) (t++[(tX v.2.1 (ib a p i c) d k).1]) (s++[ky a p i d c]) else(false,zI,s++[ky a p i d c]):=by
       show k7 _ _ _ _ _ _ _ _ _ _=_
       rw[show(cu v.1.1 a).length -c=((cu v.1.1 a).length -(c+1))+1 by omega]
       rfl
      rw[eY]
      dsimp only
      cases(tX v.2.1 (ib a p i c) d k).2&&Ke v.1.1 a c (tX v.2.1 (ib a p i c) d k).1 with
      |false=>exact⟨_,rfl,rfl⟩
      |
       true=>
       rw[aC (by decide),aA rfl,aA (show(t.length+List.length [_])*8≤aH by grind),hw2]
       simp_all
     case stop=>
      rintro rec ⟨t,s⟩ _
      dsimp only
      rw[e,aA a0,aA a1,aC (by grind)]
      refine⟨_,rfl,t,s,rfl,?_⟩
      show k7 _ _ _ _ _ _ (_ -_) _ _ _=_
      rw[Nat.sub_self]
      rfl
     ·obtain⟨t,s,rfl,h⟩:=hr
      exact⟨_,rfl,h.symm⟩
theorem Kh{g:Nat→List β}:∀n:Nat,(∀c<n,g c= [])→(List.range n).flatMap g= []
 |0,_=>rfl
 |
  n+1,h=>by
  simp_all
theorem Ck{g:Nat→List β}{c:Nat}:∀n:Nat,c<n→(∀x<n,x≠c→g x= [])→(List.range n).flatMap g=g c
 |0,h,_=>by omega
 |
  n+1,h,hx=>by
  rw[List.range_succ,List.flatMap_append,List.flatMap_cons,List.flatMap_nil,fH]
  by_cases e:c=n
  ·grind [Kh]
  ·rw[Ck n (by omega) fun x hx'=>hx x (by omega),hx n (by omega) (by omega),fH]
def rI(s:cp)(l:List Fa)(p:Pl):List Fa:=if 0≤p.1∧p.1<(s.2.2.1.length:Int) then(List.range (cu s p.1).length).flatMap fun(c:Nat)=>iO (ib p.1 p.2.1 p.2.2.1 c) l else[]
theorem IS(s:cp)(l:List Fa)(ix:List (Ky×List Fa))(h:∀key,aQ aK (.slice 64 bH) key ix=iO key l)(p:Pl):iy s (some ix) p=rI s l p:=by
 have e:(fun(c:Nat)=>aQ aK (.slice 64 bH) (p.1,(p.2.1,(bq ((bq ((16:Int)*p.2.2.1))+(c:Int)),()))) (aY (some ix)))=fun(c:Nat)=>iO (ib p.1 p.2.1 p.2.2.1 c) l:=funext fun c=>h _
 unfold iy rI
 rw[e]
theorem Ki{a p i:Int}(i0:0≤i)(i1:i<4){c e:Nat}(hc:c≤1000)(he:e≤1000)(h:ib a p i c=ib a p i e):c=e:=by
 have h1:bq ((bq ((16:Int)*i))+(c:Int))=bq ((bq ((16:Int)*i))+(e:Int)):=congrArg (fun k:Ky=>k.2.2.1) h
 grind [gZ]
theorem Kj(s:cp)(l:List Fa){a p i:Int}(a0:0≤a)(a1:a<(s.2.2.1.length:Int))(hF:(cu s a).length≤1000)(i0:0≤i)(i1:i<4){c:Nat}(hc:c<(cu s a).length)(d k:Int):
 tX (rI s l (a,(p,(i,())))) (ib a p i c) d k=tX l (ib a p i c) d k:=by
 have e:(rI s l (a,(p,(i,())))).filter (lf (ib a p i c) k)=l.filter (lf (ib a p i c) k):=by
  have e1:rI s l (a,(p,(i,())))=(List.range (cu s a).length).flatMap fun(c:Nat)=>iO (ib a p i c) l:=aA ⟨a0,a1⟩
  rw[e1,List.filter_flatMap]
  rw[Ck (c:=c) _ hc fun x hx hne=>?_]
  ·unfold iO
   rw[List.filter_filter]
   refine List.filter_congr fun x _=>?_
   simp_all[lf]
  ·unfold iO
   rw[List.filter_filter]
   refine List.filter_eq_nil_iff.2 fun y _=>?_
   intro h
   have h:=Bool.and_eq_true_iff.1 h
   have h1:=(Bool.and_eq_true_iff.1 h.1).1
   have q1:=(cL aK y.1 (ib a p i c)).1 h1
   have q2:=(cL aK y.1 (ib a p i x)).1 h.2
   exact hne (Ki i0 i1 (by omega) (by omega) (q2.symm.trans q1))
 unfold tX lg
 rw[e]
def Oa(w:bz)(d k:Int)(p:Pl):An:=oS w.1.1 (fun q=>tX w.2.1 q d k) p.1 p.2.1 p.2.2.1 d
theorem MYo{PS:Zf}{ix:List (Ky×List Fa)}(hw:WY w PS U (some ix))(_hf:w.2.1.length≤1000)(h:∀key,aQ aK (.slice 64 bH) key ix=iO key w.2.1)(d k:Int):MY w PS U (some ix) d k (Oa w d k):=by
 have hB:=hB
 refine⟨hw,fun p hP=>?_⟩
 have hpl:(iy w.1.1 (some ix) p).length≤aH:=by
  obtain⟨L,e,hL,_⟩:=Cc hw p d k true none () [] [] []
  rw[GW hw p d k true none () [] [] []] at e
  grind
 rw[NZ (w.1,(iy w.1.1 (some ix) p,())) hw.sw.nb hw.sw.rules hw.fl hpl,IS w.1.1 w.2.1 ix h]
 unfold Oa
 rw[Cj (d':=d) Iff.rfl (V:=fun q=>tX w.2.1 q d k) (V':=fun q=>tX (rI w.1.1 w.2.1 p) q d k) fun r hr=>?_,Kg]
 obtain⟨⟨c,hc,rfl⟩,h1,h2,_⟩:=Kf hr
 obtain⟨b,eb,hb⟩:=ml w.1.1 hw.sw.rules p.1
 have h1:b=true:=by grind [IP]
 obtain⟨a0,a1,_⟩:=hb h1
 obtain⟨i0,i1⟩:=(GZ _ _).2 h2
 exact Kj w.1.1 w.2.1 (p:=p.2.1) a0 a1 (hw.fl _ a0 a1) i0 i1 hc d k
theorem MXo{PS:Zf}{ix:List (Ky×List Fa)}(hw:WX w lo PS U (some ix))(hf:w.2.1.length≤1000)(h:∀key,aQ aK (.slice 64 bH) key ix=iO key w.2.1)(m:DM)(d k:Int):MX w lo PS U (some ix) m d k (Oa w d k) (LQ w.1.1 m lo):=⟨hw,MYo hw.y hf h d k,GY hw.cg.rk.pre m⟩
variable{w:bz} {lo PS:Zf} {U:List Pl} {ix:Ix} {m:DM} {d k:Int} {O:Pl→An} {L:Pl→Qy Rs}
def Cn(b:Bool)(m:DM)(a p d:Int):Bool:=b&&(aQ (.int .i64) .bool a (aY m)&&(decide ((0:Int)≤p)&&(decide (p<(4096:Int))&&(decide ((0:Int)≤d)&&decide (d<(1024:Int))))))
theorem Co(a p:Int)(w:bz)(ix:Ix)(d k:Int)(b:Bool)(m:DM)(z:Unit)(fo:FM)(se:SM)(rs:List Rd):
 u0 a p w ix d k b m z fo se rs=some (Cn b m a p d,w,ix,d,k,b,m,z,fo,se,rs):=by
 grind [u0,Cn]
def xE(b:Bool)(m:DM)(a p d i:Int):Bool:= !aQ (.int .i64) .bool a (aY m)||(decide (i=0)&&Cn b m a p d)
def Ri(O:Pl→An)(L:Pl→Qy Rs)(b:Bool)(m:DM)(a p d i:Int):List Rd:=if xE b m a p d i=true then((L (a,(p,(i,())))).run O).2 else[]
def Fv(O:Pl→An)(L:Pl→Qy Rs)(b:Bool)(m:DM)(a p d i:Int):Bool×In:=if xE b m a p d i=true then(((L (a,(p,(i,())))).run O).1.2.2.2.1,((L (a,(p,(i,())))).run O).1.1) else(false,zI)
def Uu(w:bz)(p a:Int):List Pl:=((List.range 4).map fun(j:Nat)=>(a,(p,((j:Int),()))))++Uo w p (a,(p,((0:Int),())))
theorem En(p a:Int)(hT:FT w.1.1)(hf:w.2.1.length≤60):(Uu w p a).length≤2200:=by
 grind [Kc,Uu]
theorem WXu(hc:CG w.1.1 lo)(hT:FT w.1.1)(hf:w.2.1.length≤60)(p a:Int)(hix:IX (B5 w p) ix):WX w lo (B5 w p) (Uu w p a) ix:=
 {WXo hc hT hf p (a,(p,((0:Int),()))) hix with
  pl:=fun b q i h0 h1 h2 h3 h4=>lP _ ((WXo hc hT hf p (a,(p,((0:Int),()))) hix).pl b q i h0 h1 h2 h3 h4)
  len:=de (En p a hT hf) (by decide)}
theorem WYu(hs:SA w.1.1)(hT:FT w.1.1)(hf:w.2.1.length≤60)(p a:Int)(hix:IX (B5 w p) ix):WY w (B5 w p) (Uu w p a) ix:=
 ⟨hs.sw,de (En p a hT hf) (by decide),fun a a0 a1=>de (hT.fields _ (dB (t:=bF) (l:=w.1.1.2.2.1) a0 a1)) (by decide),hix⟩
theorem IXo(hf:w.2.1.length≤60)(p:Int){ix:List (Ky×List Fa)}(h:∀key,aQ aK (.slice 64 bH) key ix=iO key w.2.1):IX (B5 w p) (some ix):=fun key=>by
 have e:aQ aK (.slice 64 bH) key (aY (some ix))=iO key w.2.1:=h key
 have hle:(iO key w.2.1).length≤w.2.1.length:=yv ..
 rw[e]
 exact⟨by omega,fun f hf=>dv _ (dv _ (kA _ (List.mem_map.2 ⟨f,(List.mem_filter.1 hf).1,rfl⟩)))⟩
abbrev dM(w:bz):DM:=some (xH w.1.1.2.2.2.1)
def LL(w:bz)(lo:Zf)(r:Int):Pl→Qy Rs:=if r=0 then LQ w.1.1 (dM w) lo else jW w.1.1 (dM w) fun _=>.ret zR
theorem Kk(hs:SA w.1.1)(hT:FT w.1.1)(hf:w.2.1.length≤60){r:Int}(hcg:r=0→CG w.1.1 lo)(a0 a p:Int){ix:List (Ky×List Fa)}(h:∀key,aQ aK (.slice 64 bH) key ix=iO key w.2.1)(d k:Int)(z:Unit){i:Int}(hU:(a,(p,(i,())))∈Uu w p a0)(hl:xE (decide (r=0)) (dM w) a p d i=true)(fo:FM)(se:SM)(rs:List Rd)(hI:MI w.1.1 (B5 w p) (Uu w p a0) (Oa w d k) (LL w lo r) fo se rs):
 W (dL (a,(p,(i,()))) w (some ix) d k (decide (r=0)) (dM w) z fo se rs) (LP w (B5 w p) (Uu w p a0) (some ix) (dM w) d k (Oa w d k) (LL w lo r) (decide (r=0)) z (a,(p,(i,()))) rs):=by
 have hP:p∈B5 w p:=dv _ (cC ..)
 have hix:=IXo hf p h
 have Y:=MYo (WYu hs hT hf p a0 hix) (by omega) h d k
 refine Ch Y _ z _ hI hU hP ?_
 by_cases hm:aQ (.int .i64) .bool a (aY (dM w))=true
 ·have hr:r=0:=by
   refine Classical.byContradiction fun hr=>?_
   grind [xE,Cn]
  have X:=MXo (WXu (hcg hr) hT hf p a0 hix) (by omega) h (dM w) d k
  have e:LL w lo r=LQ w.1.1 (dM w) lo:=aA hr
  grind [Cf]
 ·refine Cg Y _ z _ ?_ hm hI hU hP
  unfold LL
  by_cases hr:r=0
  ·rw[aA hr];exact GY (hcg hr).rk.pre _ _
  simp_all[jW]
variable{w:bz} {lo PS:Zf} {U:List Pl} {ix:Ix} {m:DM} {d k:Int} {O:Pl→An} {L:Pl→Qy Rs}
theorem Tk(a p i:Int)(b:Bool)(z:Unit){rs:List Rd}(h:MI w.1.1 PS U O L fo se rs)
 (hk:xE b m a p d i=true→W (dL (a,(p,(i,()))) w ix d k b m z fo se rs) (LP w PS U ix m d k O L b z (a,(p,(i,()))) rs)):
 W (AM a p i w ix d k b m z fo se rs) fun r=>∃fo' se',r=((Fv O L b m a p d i).1,w,ix,d,k,b,m,z,fo',se',(Fv O L b m a p d i).2,cV rs (Ri O L b m a p d i))∧MI w.1.1 PS U O L fo' se' (cV rs (Ri O L b m a p d i))∧((Fv O L b m a p d i).1=true→FV w.1.1 PS (Fv O L b m a p d i).2 a):=by
 unfold AM Ri Fv
 have go:xE b m a p d i=true→W ((dL (a,(p,(i,()))) w ix d k b m z fo se rs).bind fun⟨z,aa,ab,ac,ad,ae,af,ag,ah,y,ai⟩=>some (y.2.2.2.1,z,aa,ab,ac,ad,ae,af,ag,ah,y.1,ai)) fun r=>∃fo' se',r=(((L (a,(p,(i,())))).run O).1.2.2.2.1,w,ix,d,k,b,m,z,fo',se',((L (a,(p,(i,())))).run O).1.1,cV rs ((L (a,(p,(i,())))).run O).2)∧MI w.1.1 PS U O L fo' se' (cV rs ((L (a,(p,(i,())))).run O).2)∧(((L (a,(p,(i,())))).run O).1.2.2.2.1=true→FV w.1.1 PS ((L (a,(p,(i,())))).run O).1.1 a):=fun hl=>by
  refine oY.2 ((hk hl).mono fun r hr=>?_)
  obtain⟨fo',se',rfl,h',hx,_⟩:=hr
  exact⟨_,rfl,fo',se',rfl,h',hx⟩
 cases hm:aQ (.int .i64) .bool a (aY m) with
 |
  false=>
  simp_all[xE,aG]
 |
  true=>
  rw[aA rfl]
  by_cases hi:i=0
  ·rw[aC (show¬(!decide (i=(0:Int)))=true by simp[hi]),Co,aM]
   dsimp only
   have hl:xE b m a p d i=Cn b m a p d:=by grind [xE]
   rw[hl] at go ⊢
   cases hb:Cn b m a p d with
   |
    false=>
    rw[aA (show(!false)=true from rfl),aC (by decide),aC (by decide)]
    exact⟨_,rfl,fo,se,rfl,h,fun h=>(by cases h)⟩
   |
    true=>
    simp_all[aG]
  ·have hl:xE b m a p d i=false:=by grind [xE]
   rw[aA (show(!decide (i=(0:Int)))=true by simp[hi]),hl,aC (by decide),aC (by decide)]
   exact⟨_,rfl,fo,se,rfl,h,fun h=>(by cases h)⟩
variable{w:bz} {lo PS:Zf} {U:List Pl} {ix:Ix} {m:DM} {d k:Int} {O:Pl→An} {L:Pl→Qy Rs}
def G0(L:Pl→Qy Rs)(b:Bool)(m:DM)(a p d i:Int):Qy (Bool×In):=if xE b m a p d i=true then(L (a,(p,(i,())))).bind fun r=>.ret (r.2.2.2.1,r.1) else .ret (false,zI)
theorem zU(a:α):(Qy.ret a).run O=(a,[]):=rfl
theorem IT(b:Bool)(a p i:Int):(G0 L b m a p d i).run O=(Fv O L b m a p d i,Ri O L b m a p d i):=by
 unfold G0 Fv Ri
 by_cases h:xE b m a p d i=true
 ·simp_all[Qy.run_bind,zU]
 ·rw[aC h,aC h,aC h];rfl
def vn(L:Pl→Qy Rs)(b:Bool)(m:DM)(a p d:Int):Nat→Nat→Qy (List In)
 |0,_=>.ret []
 |n+1,c=>(G0 L b m a p d (c:Int)).bind fun y=>(vn L b m a p d n (c+1)).bind fun l=>.ret (if y.1=true then y.2::l else l)
def vo(L:Pl→Qy Rs)(b:Bool)(m:DM)(p d:Int):Nat→Nat→Qy (List In)
 |0,_=>.ret []
 |n+1,a=>(vn L b m (a:Int) p d (cP m (a:Int)) 0).bind fun l1=>(vo L b m p d n (a+1)).bind fun l2=>.ret (l1++l2)
theorem vq(b:Bool)(a p:Int)(n c:Nat):(vn L b m a p d (n+1) c).run O=((if(Fv O L b m a p d (c:Int)).1=true then(Fv O L b m a p d (c:Int)).2::((vn L b m a p d n (c+1)).run O).1 else((vn L b m a p d n (c+1)).run O).1),Ri O L b m a p d (c:Int)++((vn L b m a p d n (c+1)).run O).2):=by
 show((G0 L b m a p d (c:Int)).bind _).run O=_
 grind [Qy.run_bind,IT,zU]
theorem pX(b:Bool)(p:Int)(n a:Nat):(vo L b m p d (n+1) a).run O=(((vn L b m (a:Int) p d (cP m (a:Int)) 0).run O).1++((vo L b m p d n (a+1)).run O).1,((vn L b m (a:Int) p d (cP m (a:Int)) 0).run O).2++((vo L b m p d n (a+1)).run O).2):=by
 show((vn L b m (a:Int) p d (cP m (a:Int)) 0).bind _).run O=_
 grind [Qy.run_bind,zU]
theorem G1(hw:WY w PS U ix)(a p:Int)(a0:0≤a)(a1:a<(w.1.1.2.2.1.length:Int))(N:Int)(n:Nat)(hn:n≤4)(b:Bool)(z:Unit)
 (hk:∀i:Int,0≤i→i<4→xE b m a p d i=true→∀fo se rs,MI w.1.1 PS U O L fo se rs→W (dL (a,(p,(i,()))) w ix d k b m z fo se rs) (LP w PS U ix m d k O L b z (a,(p,(i,()))) rs))   {rs:List Rd} (h:MI w.1.1 PS U O L fo se rs) (l:List In) (hl:l.length≤1000) (hv:∀x∈l,x.2.2.2.1.length≤1000):
 W (iH (Int.toNat (n:Int)+1) (p,a,N,a,(n:Int),0,w,ix,d,k,b,m,z,fo,se,l,rs)) (CT (fun r=>∃fo' se',r=(p,N,a,w,ix,d,k,b,m,z,fo',se',l++((vn L b m a p d n 0).run O).1,cV rs ((vn L b m a p d n 0).run O).2)∧MI w.1.1 PS U O L fo' se' (cV rs ((vn L b m a p d n 0).run O).2)∧(l++((vn L b m a p d n 0).run O).1).length≤l.length+4∧∀x∈l++((vn L b m a p d n 0).run O).1,x.2.2.2.1.length≤1000) fun _=>False):=by
 have hB:=hB
 let Y:Nat→List In×List Rd:=fun c=>(vn L b m a p d (n -c) c).run O
 refine W.mono (rZ (L:=iH) rfl (fun c(s:FM×SM×List In×List Rd)(r:cK _ _)=>CT (fun r=>∃fo' se',r=(p,N,a,w,ix,d,k,b,m,z,fo',se',s.2.2.1++(Y c).1,cV s.2.2.2 (Y c).2)∧MI w.1.1 PS U O L fo' se' (cV s.2.2.2 (Y c).2)∧(s.2.2.1++(Y c).1).length≤s.2.2.1.length+(4 -c)∧∀x∈s.2.2.1++(Y c).1,x.2.2.2.1.length≤1000) (fun _=>False) r) n (fun c(s:FM×SM×List In×List Rd)=>(p,a,N,a,(n:Int),(c:Int),w,ix,d,k,b,m,z,s.1,s.2.1,s.2.2.1,s.2.2.2)) (fun c s=>MI w.1.1 PS U O L s.1 s.2.1 s.2.2.2∧s.2.2.1.length≤1000+c∧∀x∈s.2.2.1,x.2.2.2.1.length≤1000) ?step ?stop _ 0 (fo,se,l,rs) (by omega) (by omega) ⟨h,by omega,hv⟩) fun r hr=> ?fin
 case fin=>exact hr
 case step=>
  rintro rec c ⟨fo,se,l,rs⟩ hc ⟨hI,hl,hv⟩ kk
  dsimp only at hI hl hv ⊢
  have hw2:=nE c (by omega)
  have eY:Y c=((if(Fv O L b m a p d (c:Int)).1=true then(Fv O L b m a p d (c:Int)).2::(Y (c+1)).1 else(Y (c+1)).1),Ri O L b m a p d (c:Int)++(Y (c+1)).2):=by
   show(vn _ _ _ _ _ _ _ _).run O=_
   rw[show n -c=(n -(c+1))+1 by omega,vq]
  rw[cz (by omega),eY]
  refine oY.2 ((Tk a p (c:Int) b z hI fun hl=>hk _ (dU c) (by omega) hl fo se rs hI).mono fun r hr=>?_)
  obtain⟨fo',se',rfl,h',hx⟩:=hr
  dsimp only
  rw[dT,hw2]
  generalize Fv O L b m a p d (c:Int)=y at hx ⊢
  obtain⟨y,x⟩:=y
  dsimp only at hx ⊢
  cases y with
  |
   true=>
   have hxl:x.2.2.2.1.length≤1000:=by rw[(hx rfl).1];exact hw.fl a a0 a1
   rw[aA rfl,aA (show(l.length+List.length [x])*48≤aH by grind),aA rfl]
   refine(kk (fo',se',l++[x],cV rs (Ri O L b m a p d (c:Int))) ⟨h',by grind,fun y hy=>?_⟩).ct (fun r hr=>?_) fun r hr=>hr
   ·grind
   ·obtain⟨fo2,se2,rfl,g1,g2,g3⟩:=hr
    dsimp only at g1 g2 g3 ⊢
    have e:l++[x]++(Y (c+1)).1=l++x::(Y (c+1)).1:=by grind
    rw[e] at g2 g3 ⊢
    simp only[mb,gI,List.length_nil] at g2 ⊢
    grind
  |
   false=>
   rw[aC (by decide),aC (by decide)]
   refine(kk (fo',se',l,cV rs (Ri O L b m a p d (c:Int))) ⟨h',by grind,hv⟩).ct (fun r hr=>?_) fun r hr=>hr
   obtain⟨fo2,se2,rfl,g1,g2,g3⟩:=hr
   dsimp only at g1 g2 g3 ⊢
   exact⟨fo2,se2,rfl,g1,by omega,g3⟩
 case stop=>
  rintro rec ⟨fo,se,l,rs⟩ ⟨hI,hl,hv⟩
  dsimp only at hI hl hv ⊢
  rw[aC (by grind)]
  have e:Y n=([],[]):=by
   show(vn _ _ _ _ _ _ (n -n) _).run O=_
   rw[Nat.sub_self];rfl
  rw[e]
  refine⟨_,rfl,fo,se,by rw[fH];rfl,hI,by grind,by grind⟩
theorem WQ(hw:WY w PS U ix)(hn:w.1.1.2.2.1.length≤6)(p:Int)(b:Bool)(z:Unit)
 (hk:∀a i:Int,0≤a→a<(w.1.1.2.2.1.length:Int)→0≤i→i<4→xE b m a p d i=true→∀fo se rs,MI w.1.1 PS U O L fo se rs→W (dL (a,(p,(i,()))) w ix d k b m z fo se rs) (LP w PS U ix m d k O L b z (a,(p,(i,()))) rs)):
 W (mY p w ix d k b m z [] [] []) fun r=>∃fo' se',r=(((vo L b m p d w.1.1.2.2.1.length 0).run O).1,w,ix,d,k,b,m,z,fo',se',cV [] ((vo L b m p d w.1.1.2.2.1.length 0).run O).2)∧MI w.1.1 PS U O L fo' se' (cV [] ((vo L b m p d w.1.1.2.2.1.length 0).run O).2)∧((vo L b m p d w.1.1.2.2.1.length 0).run O).1.length≤24∧∀x∈((vo L b m p d w.1.1.2.2.1.length 0).run O).1,x.2.2.2.1.length≤1000:=by
 have hB:=hB
 let Y:Nat→List In×List Rd:=fun c=>(vo L b m p d (w.1.1.2.2.1.length -c) c).run O
 unfold mY
 refine bK.2 ((W.mono (rZ (L:=su) rfl (fun c(s:FM×SM×List In×List Rd)(r:cK _ _)=>CT (fun r=>∃fo' se',r=(w,ix,d,k,b,m,z,fo',se',s.2.2.1++(Y c).1,cV s.2.2.2 (Y c).2)∧MI w.1.1 PS U O L fo' se' (cV s.2.2.2 (Y c).2)∧(s.2.2.1++(Y c).1).length≤s.2.2.1.length+4*(6 -c)∧∀x∈s.2.2.1++(Y c).1,x.2.2.2.1.length≤1000) (fun _=>False) r) w.1.1.2.2.1.length (fun c(s:FM×SM×List In×List Rd)=>(p,(w.1.1.2.2.1.length:Int),(c:Int),w,ix,d,k,b,m,z,s.1,s.2.1,s.2.2.1,s.2.2.2)) (fun c s=>MI w.1.1 PS U O L s.1 s.2.1 s.2.2.2∧s.2.2.1.length≤4*c∧∀x∈s.2.2.1,x.2.2.2.1.length≤1000) ?step ?stop _ 0 ([],[],[],[]) (by omega) (by omega) ⟨MI.nil _ _ _ _ _,dN _,fun x hx=>(by cases hx)⟩) fun r hr=>hr).ct (fun r hr=>?_) fun r hr=>hr.elim)
 case step=>
  rintro rec c ⟨fo,se,l,rs⟩ hc ⟨hI,hl,hv⟩ kk
  dsimp only at hI hl hv ⊢
  have hw2:=nE c (by omega)
  have eY:Y c=(((vn L b m (c:Int) p d (cP m (c:Int)) 0).run O).1++(Y (c+1)).1,((vn L b m (c:Int) p d (cP m (c:Int)) 0).run O).2++(Y (c+1)).2):=by
   show(vo _ _ _ _ _ _ _).run O=_
   rw[show w.1.1.2.2.1.length -c=(w.1.1.2.2.1.length -(c+1))+1 by omega,pX]
  have hn4:cP m (c:Int)≤4:=by unfold cP;grind
  have hit:=G1 (L:=L) (O:=O) (m:=m) (d:=d) (k:=k) hw (c:Int) p (dU c) (by omega) (w.1.1.2.2.1.length:Int) (cP m (c:Int)) hn4 b z (fun i h0 h1=>hk (c:Int) i (dU c) (by omega) h0 h1) hI l (by omega) hv
  rw[cz (by omega),eY]
  refine bK.2 ?_
  have e:aI (U:=Int×Int×Int×Int×Int×bz×Ix×Int×Int×Bool×DM×Unit×FM×SM×List In×List Rd) (if(aQ (.int .i64) .bool (c:Int) (aY m))=true then(some (.brk (p,(c:Int),1,(w.1.1.2.2.1.length:Int),(c:Int),w,ix,d,k,b,m,z,fo,se,l,rs))) else(some (.brk (p,(c:Int),4,(w.1.1.2.2.1.length:Int),(c:Int),w,ix,d,k,b,m,z,fo,se,l,rs)))) (fun⟨b,c,a,d,e,f,g,h,i,j,k,l,m,n,o,p⟩=>iH (Int.toNat a+1) (b,c,d,e,a,0,f,g,h,i,j,k,l,m,n,o,p))=iH (Int.toNat ((cP m (c:Int):Nat):Int)+1) (p,(c:Int),(w.1.1.2.2.1.length:Int),(c:Int),((cP m (c:Int):Nat):Int),0,w,ix,d,k,b,m,z,fo,se,l,rs):=by
   unfold cP
   by_cases hm:aQ (.int .i64) .bool (c:Int) (aY m)=true
   ·rw[aA hm,aA hm,aG];rfl
   ·rw[aC hm,aC hm,aG];rfl
  rw[e]
  refine hit.ct (fun r hr=>?_) fun r hr=>hr.elim
  obtain⟨fo',se',rfl,h',g1,g2⟩:=hr
  dsimp only
  rw[hw2]
  refine(kk (fo',se',_,_) ⟨h',by grind,g2⟩).ct (fun r hr=>?_) fun r hr=>hr
  obtain⟨fo2,se2,rfl,q1,q2,q3⟩:=hr
  dsimp only at q1 q2 q3 ⊢
  rw[vG] at q2 q3 ⊢
  rw[dT]
  grind
 case stop=>
  rintro rec ⟨fo,se,l,rs⟩ ⟨hI,hl,hv⟩
  dsimp only at hI hl hv ⊢
  rw[aC (by grind)]
  have e:Y w.1.1.2.2.1.length=([],[]):=by
   show(vo _ _ _ _ _ (w.1.1.2.2.1.length -w.1.1.2.2.1.length) _).run O=_
   rw[Nat.sub_self];rfl
  rw[e]
  refine⟨_,rfl,fo,se,by rw[fH];rfl,hI,by grind,by grind⟩
 ·obtain⟨fo',se',rfl,h',g1,g2⟩:=hr
  exact⟨_,rfl,fo',se',rfl,h',g1,g2⟩
def AQ(w:bz)(lo:Zf)(r p d:Int):Qy (List In):=vo (LL w lo r) (decide (r=0)) (dM w) p d w.1.1.2.2.1.length 0
theorem Se(hs:SA w.1.1)(hT:FT w.1.1)(hf:w.2.1.length≤60){r:Int}(er:f44 w.1=some r)(hcg:r=0→CG w.1.1 lo)(p d k:Int):
 f16 w p d k=some (((AQ w lo r p d).run (Oa w d k)).1,cV [] ((AQ w lo r p d).run (Oa w d k)).2)∧((AQ w lo r p d).run (Oa w d k)).1.length≤24∧(∀x∈((AQ w lo r p d).run (Oa w d k)).1,x.2.2.2.1.length≤1000)∧(cV [] ((AQ w lo r p d).run (Oa w d k)).2).length≤2200000:=by
 obtain⟨ix,e1,h1⟩:=Kb w (by omega) hs.sw.rules d k (decide (r=(0:Int)))
 unfold f16
 rw[er,aM,e1,aM]
 dsimp only
 have hix:=IXo hf p h1
 obtain⟨x,ex,fo,se,rfl,hI,g1,g2⟩:=WQ (L:=LL w lo r) (O:=Oa w d k) (k:=k) (d:=d) (m:=dM w) (WYu hs hT hf p 0 hix) hT.dj p (decide (r=0)) () fun a i a0 a1 i0 i1 hl fo se rs hI=>Kk hs hT hf hcg 0 a p h1 d k () (lP _ (Sb p _ a0 a1 (dv _ (cC ..)) i0 i1)) hl fo se rs hI
 have hU:=En p 0 hT hf
 have hl:=hI.fi.len
 have hr:=hI.fi.rs
 unfold AQ
 grind
section
variable{w:bz} {lo PS:Zf} {U:List Pl} {ix:Ix} {m:DM} {d k:Int} {O:Pl→An} {L:Pl→Qy Rs}
theorem WR(hw:WY w PS U ix)(hn:w.1.1.2.2.1.length≤6)(p:Int)(b:Bool)(z:Unit){fo0:FM}{se0:SM}{rs0:List Rd}(h0:MI w.1.1 PS U O L fo0 se0 rs0)
 (hk:∀a i:Int,0≤a→a<(w.1.1.2.2.1.length:Int)→0≤i→i<4→xE b m a p d i=true→∀fo se rs,MI w.1.1 PS U O L fo se rs→W (dL (a,(p,(i,()))) w ix d k b m z fo se rs) (LP w PS U ix m d k O L b z (a,(p,(i,()))) rs)):
 W (mY p w ix d k b m z fo0 se0 rs0) fun r=>∃fo' se',r=(((vo L b m p d w.1.1.2.2.1.length 0).run O).1,w,ix,d,k,b,m,z,fo',se',cV rs0 ((vo L b m p d w.1.1.2.2.1.length 0).run O).2)∧MI w.1.1 PS U O L fo' se' (cV rs0 ((vo L b m p d w.1.1.2.2.1.length 0).run O).2)∧((vo L b m p d w.1.1.2.2.1.length 0).run O).1.length≤24∧∀x∈((vo L b m p d w.1.1.2.2.1.length 0).run O).1,x.2.2.2.1.length≤1000:=by
 have hB:=hB
 let Y:Nat→List In×List Rd:=fun c=>(vo L b m p d (w.1.1.2.2.1.length -c) c).run O
 unfold mY
 refine bK.2 ((W.mono (rZ (L:=su) rfl (fun c(s:FM×SM×List In×List Rd)(r:cK _ _)=>CT (fun r=>∃fo' se',r=(w,ix,d,k,b,m,z,fo',se',s.2.2.1++(Y c).1,cV s.2.2.2 (Y c).2)∧MI w.1.1 PS U O L fo' se' (cV s.2.2.2 (Y c).2)∧(s.2.2.1++(Y c).1).length≤s.2.2.1.length+4*(6 -c)∧∀x∈s.2.2.1++(Y c).1,x.2.2.2.1.length≤1000) (fun _=>False) r) w.1.1.2.2.1.length (fun c(s:FM×SM×List In×List Rd)=>(p,(w.1.1.2.2.1.length:Int),(c:Int),w,ix,d,k,b,m,z,s.1,s.2.1,s.2.2.1,s.2.2.2)) (fun c s=>MI w.1.1 PS U O L s.1 s.2.1 s.2.2.2∧s.2.2.1.length≤4*c∧∀x∈s.2.2.1,x.2.2.2.1.length≤1000) ?step ?stop _ 0 (fo0,se0,[],rs0) (by omega) (by omega) ⟨h0,dN _,fun x hx=>(by cases hx)⟩) fun r hr=>hr).ct (fun r hr=>?_) fun r hr=>hr.elim)
 case step=>
  rintro rec c ⟨fo,se,l,rs⟩ hc ⟨hI,hl,hv⟩ kk
  dsimp only at hI hl hv ⊢
  have hw2:=nE c (by omega)
  have eY:Y c=(((vn L b m (c:Int) p d (cP m (c:Int)) 0).run O).1++(Y (c+1)).1,((vn L b m (c:Int) p d (cP m (c:Int)) 0).run O).2++(Y (c+1)).2):=by
   show(vo _ _ _ _ _ _ _).run O=_
   rw[show w.1.1.2.2.1.length -c=(w.1.1.2.2.1.length -(c+1))+1 by omega,pX]
  have hn4:cP m (c:Int)≤4:=by unfold cP;grind
  have hit:=G1 (L:=L) (O:=O) (m:=m) (d:=d) (k:=k) hw (c:Int) p (dU c) (by omega) (w.1.1.2.2.1.length:Int) (cP m (c:Int)) hn4 b z (fun i h0 h1=>hk (c:Int) i (dU c) (by omega) h0 h1) hI l (by omega) hv
  rw[cz (by omega),eY]
  refine bK.2 ?_
  have e:aI (U:=Int×Int×Int×Int×Int×bz×Ix×Int×Int×Bool×DM×Unit×FM×SM×List In×List Rd) (if(aQ (.int .i64) .bool (c:Int) (aY m))=true then(some (.brk (p,(c:Int),1,(w.1.1.2.2.1.length:Int),(c:Int),w,ix,d,k,b,m,z,fo,se,l,rs))) else(some (.brk (p,(c:Int),4,(w.1.1.2.2.1.length:Int),(c:Int),w,ix,d,k,b,m,z,fo,se,l,rs)))) (fun⟨b,c,a,d,e,f,g,h,i,j,k,l,m,n,o,p⟩=>iH (Int.toNat a+1) (b,c,d,e,a,0,f,g,h,i,j,k,l,m,n,o,p))=iH (Int.toNat ((cP m (c:Int):Nat):Int)+1) (p,(c:Int),(w.1.1.2.2.1.length:Int),(c:Int),((cP m (c:Int):Nat):Int),0,w,ix,d,k,b,m,z,fo,se,l,rs):=by
   unfold cP
   by_cases hm:aQ (.int .i64) .bool (c:Int) (aY m)=true
   ·rw[aA hm,aA hm,aG];rfl
   ·rw[aC hm,aC hm,aG];rfl
  rw[e]
  refine hit.ct (fun r hr=>?_) fun r hr=>hr.elim
  obtain⟨fo',se',rfl,h',g1,g2⟩:=hr
  dsimp only
  rw[hw2]
  refine(kk (fo',se',_,_) ⟨h',by grind,g2⟩).ct (fun r hr=>?_) fun r hr=>hr
  obtain⟨fo2,se2,rfl,q1,q2,q3⟩:=hr
  dsimp only at q1 q2 q3 ⊢
  rw[vG] at q2 q3 ⊢
  rw[dT]
  grind
 case stop=>
  rintro rec ⟨fo,se,l,rs⟩ ⟨hI,hl,hv⟩
  dsimp only at hI hl hv ⊢
  rw[aC (by grind)]
  have e:Y w.1.1.2.2.1.length=([],[]):=by
   show(vo _ _ _ _ _ (w.1.1.2.2.1.length -w.1.1.2.2.1.length) _).run O=_
   rw[Nat.sub_self];rfl
  rw[e]
  refine⟨_,rfl,fo,se,by rw[fH];rfl,hI,by grind,by grind⟩
 ·obtain⟨fo',se',rfl,h',g1,g2⟩:=hr
  exact⟨_,rfl,fo',se',rfl,h',g1,g2⟩
end
def sR(w:bz)(P:Zf):Zf:=P++B5 w 0
def Up(w:bz)(P:Zf):List Pl:=(List.range w.1.1.2.2.1.length).flatMap fun(i:Nat)=>(sR w P).flatMap fun(q:Int)=>(List.range 4).map fun(j:Nat)=>(((i:Int),(q,((j:Int),()))):Pl)
variable{P:Zf}
theorem Kl(hP:P.length≤4)(hT:FT w.1.1)(hf:w.2.1.length≤60):(Up w P).length≤2200:=by
 have h1:(sR w P).length≤90:=by
  grind [GX,sR]
 have h2:∀i:Nat,((sR w P).flatMap fun(q:Int)=>(List.range 4).map fun(j:Nat)=>(((i:Int),(q,((j:Int),()))):Pl)).length≤360:=fun i=>by
  have:=kZ (f:=fun(q:Int)=>(List.range 4).map fun(j:Nat)=>(((i:Int),(q,((j:Int),()))):Pl)) (n:=4) (l:=sR w P) fun y _=>by grind
  omega
 have h3:=kZ (f:=fun(i:Nat)=>(sR w P).flatMap fun(q:Int)=>(List.range 4).map fun(j:Nat)=>(((i:Int),(q,((j:Int),()))):Pl)) (n:=360) (l:=List.range w.1.1.2.2.1.length) fun i _=>h2 i
 rw[List.length_range] at h3
 have h4:=hT.dj
 unfold Up
 omega
theorem Sf{a q i:Int}(a0:0≤a)(a1:a<(w.1.1.2.2.1.length:Int))(hq:q∈sR w P)(i0:0≤i)(i1:i<4):(a,(q,(i,())))∈Up w P:=by
 refine List.mem_flatMap.2 ⟨a.toNat,List.mem_range.2 (by omega),List.mem_flatMap.2 ⟨q,hq,List.mem_map.2 ⟨i.toNat,List.mem_range.2 (by omega),?_⟩⟩⟩<;>grind
theorem IXp(hf:w.2.1.length≤60)(P:Zf){ix:List (Ky×List Fa)}(h:∀key,aQ aK (.slice 64 bH) key ix=iO key w.2.1):IX (sR w P) (some ix):=fun key=>
 ⟨(IXo hf 0 h key).1,fun f hf'=>lP _ ((IXo hf 0 h key).2 f hf')⟩
theorem WXp(hc:CG w.1.1 lo)(hT:FT w.1.1)(hf:w.2.1.length≤60)(hP:P.length≤4)(hix:IX (sR w P) ix):WX w lo (sR w P) (Up w P) ix where
 cg:=hc
 zero:=lP _ (cC ..)
 consts u hu t ht:=lP _ (dv _ (dv _ (lP _ (List.mem_flatMap.2 ⟨u,hu,List.mem_map.2 ⟨t,ht,rfl⟩⟩))))
 pl _ _ _ a0 a1 hq i0 i1:=Sf a0 a1 hq i0 i1
 len:=de (Kl hP hT hf) (by decide)
 fl a a0 a1:=de (hT.fields _ (dB (t:=bF) (l:=w.1.1.2.2.1) a0 a1)) (by decide)
 ix:=hix
theorem WYp(hs:SA w.1.1)(hT:FT w.1.1)(hf:w.2.1.length≤60)(hP:P.length≤4)(hix:IX (sR w P) ix):WY w (sR w P) (Up w P) ix:=
 ⟨hs.sw,de (Kl hP hT hf) (by decide),fun a a0 a1=>de (hT.fields _ (dB (t:=bF) (l:=w.1.1.2.2.1) a0 a1)) (by decide),hix⟩
theorem Km(hs:SA w.1.1)(hT:FT w.1.1)(hf:w.2.1.length≤60)(hcg:CG w.1.1 lo)(hP:P.length≤4)(a p:Int){ix:List (Ky×List Fa)}(h:∀key,aQ aK (.slice 64 bH) key ix=iO key w.2.1)(d k:Int)(z:Unit){i:Int}(a0:0≤a)(a1:a<(w.1.1.2.2.1.length:Int))(i0:0≤i)(i1:i<4)(hp:p∈P)(fo:FM)(se:SM)(rs:List Rd)(hI:MI w.1.1 (sR w P) (Up w P) (Oa w d k) (LL w lo 0) fo se rs):
 W (dL (a,(p,(i,()))) w (some ix) d k true (dM w) z fo se rs) (LP w (sR w P) (Up w P) (some ix) (dM w) d k (Oa w d k) (LL w lo 0) true z (a,(p,(i,()))) rs):=by
 have hPp:p∈sR w P:=kA _ hp
 have hU:(a,(p,(i,())))∈Up w P:=Sf a0 a1 hPp i0 i1
 have hix:=IXp hf P h
 have Y:=MYo (WYp hs hT hf hP hix) (by omega) h d k
 have X:=MXo (WXp hcg hT hf hP hix) (by omega) h (dM w) d k
 have e:LL w lo 0=LQ w.1.1 (dM w) lo:=aA rfl
 rw[e] at hI ⊢
 refine Ch Y _ z _ hI hU hPp ?_
 by_cases hm:aQ (.int .i64) .bool a (aY (dM w))=true
 ·exact Cf X _ z _ hI hU hPp
 ·exact Cg Y _ z _ (GY hcg.rk.pre _ _) hm hI hU hPp
theorem WS(hs:SA w.1.1)(hT:FT w.1.1)(hf:w.2.1.length≤60)(hcg:CG w.1.1 lo)(hP:P.length≤4){p:Int}(hp:p∈P){ix:List (Ky×List Fa)}(h:∀key,aQ aK (.slice 64 bH) key ix=iO key w.2.1)(d k:Int){rs:List Rd}(hI:MI w.1.1 (sR w P) (Up w P) (Oa w d k) (LL w lo 0) fo se rs):
 ∃fo' se' rs',mY p w (some ix) d k true (dM w) () fo se rs=some (((AQ w lo 0 p d).run (Oa w d k)).1,w,some ix,d,k,true,dM w,(),fo',se',rs')∧MI w.1.1 (sR w P) (Up w P) (Oa w d k) (LL w lo 0) fo' se' rs':=by
 obtain⟨x,ex,fo',se',rfl,h1,_⟩:=WR (L:=LL w lo 0) (O:=Oa w d k) (k:=k) (d:=d) (m:=dM w) (WYp hs hT hf hP (IXp hf P h)) hT.dj p true () hI fun a i a0 a1 i0 i1 hl fo se rs hI=>Km hs hT hf hcg hP a p h d k () a0 a1 i0 i1 hp fo se rs hI
 exact⟨fo',se',_,ex,h1⟩
theorem yn(x y:Zf)(hx:x.length≤aH):f73 x y=some (decide (x=y)):=by
 have hB:=hB
 unfold f73
 by_cases hl:x.length=y.length
 ·rw[aC (by simp[hl])]
  have key:=tF (L:=KT) rfl x.length (fun i=>(x,y,(x.length:Int),(i:Int))) () (fun i=>nth (.int .i64) x (i:Int)=nth (.int .i64) y (i:Int)) (fun r:Bool=>r=false∧x≠y) (by
   intro rec i hi
   dsimp only
   rw[cz (by omega),dZ i,aA (by omega),dZ i,aA (by omega),bh (by omega)]
   by_cases he:nth (.int .i64) x (i:Int)=nth (.int .i64) y (i:Int)
   ·grind
   ·rw[aA (by simp[he])]
    exact Or.inr ⟨false,⟨rfl,fun e=>he (by rw[e])⟩,rfl⟩) (by
   grind) (Int.toNat (x.length:Int)+1) (by omega)
  grind [List.ext_getElem,cJ,aG,di]
 ·rw[aA (by grind),dp (fun e=>hl (by rw[e]))]
theorem Ko{g:B7}(hs:SA g.1):∃r,f44 g=some r∧(r=0→CG g.1 g.2.1):=by
 obtain⟨⟨r,b⟩,e,hm⟩:=Np g.1 hs
 unfold f44
 rw[e,aM]
 dsimp only
 by_cases h:r=0
 ·subst h
  obtain⟨hb,hc⟩:=hm rfl
  obtain⟨q,hq⟩:=D6 b.1 g.1 hs.ss
  have hq2:=yn b.2.1 g.2.1 (de hc.rk.len (by have:=hc.tg.many;have:=hB;omega))
  unfold f67
  rw[hq]
  by_cases e2:b.2.1=g.2.1
  ·rw[e2] at hc
   rw[cD e2] at hq2
   cases q<;>simp only[aM,hq2]<;>simp
   exact hc
  simp_all
 simp_all
structure VP(P:Zf)(d:Int):Prop where
 inc:P.Pairwise (·<·)
 Cp:∀p∈P,0≤p∧p<4096
 day:0≤d∧d<1024
theorem VP.jV{d:Int}(h:VP P d):P.Nodup:=h.inc.imp fun h=>Int.ne_of_lt h
theorem Kp{g:B7}(hs:SA g.1)(P:Zf)(hP:P.length≤4)(d:Int):∃v,f50 g P d=some v∧(v=true→CG g.1 g.2.1∧f44 g=some 0∧VP P d):=by
 have hB:=hB
 suffices hW:W (f50 g P d) fun v=>v=true→CG g.1 g.2.1∧f44 g=some 0∧VP P d by
  trivial
 unfold f50
 refine bK.2 (oY.2 ?_)
 have h0:∃v2,(if decide ((List.length P:Int)<(1:Int)) then(some true) else(if decide ((64:Int)<(List.length P:Int)) then(some true) else(if decide (d<(0:Int)) then(some true) else(some (decide ((1024:Int)≤d))))))=some v2∧(v2=false→0≤d∧d<1024):=by
  split
  ·grind
  ·split
   ·grind
   ·split<;>grind
 obtain⟨v2,e2,hd⟩:=h0
 rw[e2]
 refine oX.2 ?_
 cases v2 with
 |true=>exact⟨_,rfl,fun h=>(by cases h)⟩
 |
  false=>
  refine⟨_,rfl,?_⟩
  dsimp only
  refine bK.2 (W.ct (cd (L:=J4) rfl (CT (fun e=>e=g∧VP P d) fun v=>v=false) P.length (fun c(lst:Int)=>(lst,P,(P.length:Int),(c:Int),g)) (fun c lst=>-1≤lst∧(P.take c).Pairwise (·<·)∧∀x∈P.take c,x≤lst∧0≤x∧x<4096) ?step ?stop (Int.toNat (P.length:Int)+1) 0 (-1) (by omega) (by omega) ⟨by omega,List.Pairwise.nil,fun x hx=>(by cases hx)⟩) (fun e he=>?_) fun v hv=>?_)
  case step=>
   rintro rec c lst hc ⟨i1,i2,i3⟩ kk
   dsimp only
   rw[cz (by omega),dZ c,aA (by omega),bh (by omega),cJ (t:=.int .i64) hc]
   split
   ·rw[aM,aA rfl]
    exact⟨_,rfl,rfl⟩
   ·rename_i h1
    have h1:lst<P[c]:=Int.not_le.1 fun h=>h1 (cD h)
    rw[aM]
    split
    ·exact⟨_,rfl,rfl⟩
    grind [List.take_succ_eq_append_getElem]
  case stop=>
   rintro rec lst ⟨_,i2,i3⟩
   dsimp only
   rw[aC (by grind)]
   rw[List.take_length] at i2 i3
   exact⟨_,rfl,rfl,i2,fun p hp=>(i3 p hp).2,hd rfl⟩
  ·obtain⟨he,hv⟩:=he
   subst he
   obtain⟨r,er,h⟩:=Ko hs
   rw[er,aM]
   exact⟨_,rfl,fun h'=>⟨h (sW h'),by grind,hv⟩⟩
  grind
def AL(w:bz)(lo:Zf)(p d k:Int):List In:=((AQ w lo 0 p d).run (Oa w d k)).1
def bP(x:In):Pl:=(x.1,(x.2.1,(x.2.2.1,())))
def rJ(m:List (Pl×In))(x:In):List (Pl×In):=aX aK (bP x) x m
def mapA(w:bz)(lo:Zf)(P:Zf)(d k:Int):List (Pl×In):=P.foldl (fun acc p=>(AL w lo p d k).foldl rJ acc) []
structure MG(m:List (Pl×In))(n:Nat):Prop where
 jV:(m.map (·.1)).Nodup
 len:m.length≤n
 xI:∀e∈m,e.2.2.2.2.1.length≤1000
theorem MG.put{m:List (Pl×In)}{n:Nat}(h:MG m n){x:In}(hx:x.2.2.2.1.length≤1000):MG (rJ m x) (n+1):=by
 refine⟨cT (kt:=aK) rfl h.jV,de (du (kt:=aK)) (by have:=h.len;omega),?_⟩
 have key:∀(m:List (Pl×In)),(∀e∈m,e.2.2.2.2.1.length≤1000)→∀e∈aX aK (bP x) x m,e.2.2.2.2.1.length≤1000:=by
  intro m
  induction m with
  |
   nil=>
   grind [aX]
  |
   cons y m ih=>
   grind [aX]
 exact key m h.xI
theorem MG.fold:∀(l:List In)(m:List (Pl×In))(n:Nat),MG m n→(∀x∈l,x.2.2.2.1.length≤1000)→MG (l.foldl rJ m) (n+l.length)
 |[],_,_,h,_=>h
 |
  x::l,m,n,h,hl=>by
  have:=MG.fold l (rJ m x) (n+1) (h.put (hl x (cC ..))) fun y hy=>hl y (dv _ hy)
  rw[gI]
  rwa [show n+(l.length+1)=n+1+l.length by omega]
section
variable{w:bz} {lo:Zf} {P:Zf} {d k:Int} {ix:List (Ky×List Fa)}
theorem yo{α β:Type}(f:β→α→β)(b:β)(l:List α)(c:Nat)(hc:c<l.length):(l.take (c+1)).foldl f b=f ((l.take c).foldl f b) l[c]:=by
 rw[List.take_succ_eq_append_getElem hc,List.foldl_append]
 rfl
theorem Tl(x0:Int)(x1:Int)(fo:FM)(se:SM)(rs:List Rd)(Q:Zf)(b:Bool)(m:DM)(z:Unit)(l:List In)(hl:l.length≤24)(hv:∀x∈l,x.2.2.2.1.length≤1000)(acc:List (Pl×In)){n:Nat}(hn:n≤1000)(ha:MG acc n):
 sx (Int.toNat (l.length:Int)+1) (Q,x0,x1,l,(l.length:Int),0,w,some ix,d,k,b,m,z,Q,fo,se,acc,rs)=some (.brk (Q,x0,x1,w,some ix,d,k,b,m,z,Q,fo,se,l.foldl rJ acc,rs)):=by
 have hB:=hB
 have key:=cd (L:=sx) rfl (fun r=>r= .brk (Q,x0,x1,w,some ix,d,k,b,m,z,Q,fo,se,l.foldl rJ acc,rs)) l.length (fun c(s:List (Pl×In))=>(Q,x0,x1,l,(l.length:Int),(c:Int),w,some ix,d,k,b,m,z,Q,fo,se,s,rs)) (fun c s=>s=(l.take c).foldl rJ acc∧MG s (n+c)) (by
  intro rec c s hc hs kk
  obtain⟨hs,hg⟩:=hs
  have h1:=hg.len
  dsimp only
  rw[cz (by omega),dZ c,aA (by omega),cJ (t:=bp) hc,bh (by omega)]
  show W (Option.bind (some (bP l[c])) _) _
  rw[aM,aA (by omega)]
  exact kk _ ⟨by grind [yo,rJ],hg.put (hv _ (fb hc))⟩) (by
  intro rec s hs
  obtain⟨hs,_⟩:=hs
  dsimp only
  rw[aC (by grind)]
  refine⟨_,rfl,?_⟩<;>grind) (Int.toNat (l.length:Int)+1) 0 acc (by omega) (by omega) ⟨rfl,ha⟩
 obtain⟨r,e,hr⟩:=key
 grind
theorem vr{w:bz}(hs:SA w.1.1)(hT:FT w.1.1)(hf:w.2.1.length≤60){lo:Zf}(hcg:CG w.1.1 lo)(er:f44 w.1=some 0)(p d k:Int):(AL w lo p d k).length≤24∧∀x∈AL w lo p d k,x.2.2.2.1.length≤1000:=by
 obtain⟨_,h1,h2,_⟩:=Se hs hT hf er (fun _=>hcg) p d k
 trivial
theorem N0{w:bz}(hs:SA w.1.1)(hT:FT w.1.1)(hf:w.2.1.length≤60){lo:Zf}(hcg:CG w.1.1 lo)(er:f44 w.1=some 0)(P:Zf)(d k:Int):MG (mapA w lo P d k) (24*P.length):=by
 have key:∀(P:Zf)(acc:List (Pl×In))(n:Nat),MG acc n→MG (P.foldl (fun acc p=>(AL w lo p d k).foldl rJ acc) acc) (n+24*P.length):=by
  intro P
  induction P with
  |nil=>grind
  |
   cons p P ih=>
   intro acc n h
   obtain⟨h1,h2⟩:=vr hs hT hf hcg er p d k
   have h3:=MG.fold (AL w lo p d k) acc n h h2
   have h4:MG ((AL w lo p d k).foldl rJ acc) (n+24):=⟨h3.jV,by have:=h3.len;omega,h3.xI⟩
   grind
 have:=key P [] 0 ⟨List.nodup_nil,dN _,fun e he=>(by cases he)⟩
 rwa [eK] at this
theorem Kq(hs:SA w.1.1)(hT:FT w.1.1)(hf:w.2.1.length≤60)(hcg:CG w.1.1 lo)(er:f44 w.1=some 0)(hP:P.length≤4)(h:∀key,aQ aK (.slice 64 bH) key ix=iO key w.2.1):
 ∃fo se rs,sy w (some ix) d k true (dM w) () P [] [] []=some (some (mapA w lo P d k),w,some ix,d,k,true,dM w,(),P,fo,se,rs)∧MI w.1.1 (sR w P) (Up w P) (Oa w d k) (LL w lo 0) fo se rs:=by
 have hB:=hB
 suffices hW:W (sy w (some ix) d k true (dM w) () P [] [] []) fun r=>∃fo se rs,r=(some (mapA w lo P d k),w,some ix,d,k,true,dM w,(),P,fo,se,rs)∧MI w.1.1 (sR w P) (Up w P) (Oa w d k) (LL w lo 0) fo se rs by
  obtain⟨r,e,fo,se,rs,rfl,h⟩:=hW
  grind
 unfold sy
 refine bK.2 (W.ct (cd (L:=zn) rfl (CT (fun r=>∃fo se rs,r=(w,some ix,d,k,true,dM w,(),P,fo,se,mapA w lo P d k,rs)∧MI w.1.1 (sR w P) (Up w P) (Oa w d k) (LL w lo 0) fo se rs) fun _=>False) P.length (fun c(s:FM×SM×List (Pl×In)×List Rd)=>(P,(P.length:Int),(c:Int),w,some ix,d,k,true,dM w,(),P,s.1,s.2.1,s.2.2.1,s.2.2.2)) (fun c s=>MI w.1.1 (sR w P) (Up w P) (Oa w d k) (LL w lo 0) s.1 s.2.1 s.2.2.2∧s.2.2.1=mapA w lo (P.take c) d k) ?step ?stop _ 0 ([],[],[],[]) (by omega) (by omega) ⟨MI.nil _ _ _ _ _,rfl⟩) (fun r hr=>?_) fun r hr=>hr.elim)
 case step=>
  rintro rec c ⟨fo,se,acc,rs⟩ hc ⟨hI,ha⟩ kk
  dsimp only at hI ha ⊢
  obtain⟨fo',se',rs',e1,h1⟩:=WS hs hT hf hcg hP (fb hc) h d k hI
  have hg:=N0 hs hT hf hcg er (P.take c) d k
  rw[←ha] at hg
  have hlc:(P.take c).length≤4:=by grind
  obtain⟨g1,g2⟩:=vr hs hT hf hcg er P[c] d k
  rw[cz (by omega),dZ c,aA (by omega),cJ (t:=.int .i64) hc,e1,aM]
  dsimp only
  have e2:=Tl (w:=w) (ix:=ix) (d:=d) (k:=k) (P.length:Int) (c:Int) fo' se' rs' P true (dM w) () (AL w lo P[c] d k) g1 g2 acc (n:=24*(P.take c).length) (by omega) hg
  unfold AL at e2
  rw[e2,aG]
  dsimp only
  rw[bh (by omega)]
  simp_all[mapA,yo,AL]
 case stop=>
  rintro rec ⟨fo,se,acc,rs⟩ ⟨hI,ha⟩
  dsimp only at hI ha ⊢
  rw[aC (by grind)]
  rw[List.take_length] at ha
  subst ha
  exact⟨_,rfl,fo,se,rs,rfl,hI⟩
 ·obtain⟨fo,se,rs,rfl,h⟩:=hr
  exact⟨_,rfl,fo,se,rs,rfl,h⟩
theorem N1{l:Zf}{a b v:Int}(a0:0≤a)(b0:0≤b)(b1:b<(l.length:Int)):nth (.int .i64) (l.set a.toNat v) b=if b=a then v else nth (.int .i64) l b:=by
 have e:b=(b.toNat:Int):=by omega
 rw[e,cJ (t:=.int .i64) (by grind),cJ (t:=.int .i64) (by omega),List.getElem_set,←e]
 grind
def OV(w:bz)(o:Zf):Prop:=o.length=w.1.1.2.2.1.length∧∀j:Nat,∀h:j<w.1.2.1.length,nth (.int .i64) o w.1.2.1[j]=(j:Int)
theorem Kr(hcg:CG w.1.1 w.1.2.1)(x0 x1:Int)(fm:Zb)(d k:Int)(b:Bool)(m:DM)(z:Unit)(fo:FM)(se:SM)(rs:List Rd):
 ∃o,sA (Int.toNat (w.1.2.1.length:Int)+1) (x0,x1,w.1.2.1,(w.1.2.1.length:Int),0,P,List.replicate (Int.toNat (w.1.2.1.length:Int)) (0:Int),w,fm,d,k,b,m,z,fo,se,rs)=some (.brk (x0,x1,P,o,w,fm,d,k,b,m,z,fo,se,rs))∧OV w o:=by
 have hB:=hB
 have hN:w.1.2.1.length≤w.1.1.2.2.1.length:=hcg.rk.len
 have hM:=hcg.tg.many
 have hlen:w.1.2.1.length=w.1.1.2.2.1.length:=by
  refine Nat.le_antisymm hN ?_
  have h1:((List.range w.1.1.2.2.1.length).map fun i:Nat=>(i:Int)).length≤w.1.2.1.length:=by
   refine yk _ _ ?_ fun x hx=>?_
   ·grind [List.nodup_range]
   ·obtain⟨i,hi,rfl⟩:=List.mem_map.1 hx
    exact(hcg.rk.all _).2 ⟨dU i,by grind⟩
  grind
 have key:=cd (L:=sA) rfl (fun r=>∃o,r= .brk (x0,x1,P,o,w,fm,d,k,b,m,z,fo,se,rs)∧OV w o) w.1.2.1.length (fun c(s:Zf)=>(x0,x1,w.1.2.1,(w.1.2.1.length:Int),(c:Int),P,s,w,fm,d,k,b,m,z,fo,se,rs)) (fun c s=>s.length=w.1.2.1.length∧∀j:Nat,j<c→∀h:j<w.1.2.1.length,nth (.int .i64) s w.1.2.1[j]=(j:Int)) (by
  rintro rec c s hc ⟨hs,hj⟩ kk
  dsimp only
  have hm:=(hcg.rk.all _).1 (fb hc)
  have hlt:w.1.2.1[c]<(s.length:Int):=by grind
  rw[cz (by omega),dZ c,aA (by omega),cJ (t:=.int .i64) hc,aA hm.1,aA hlt,bh (by omega)]
  refine kk _ ⟨by grind,fun j hjc h=>?_⟩
  have hmj:=(hcg.rk.all _).1 (fb h)
  rw[N1 hm.1 hmj.1 (by grind)]
  by_cases e:j=c
  ·grind
  ·rw[aC (fun e2=>List.pairwise_iff_getElem.1 hcg.rk.jV j c h hc (by omega) e2),hj j (by omega) h]) (by
  rintro rec s ⟨hs,hj⟩
  dsimp only
  rw[aC (by grind)]
  exact⟨_,rfl,s,rfl,by omega,fun j h=>hj j h h⟩) (Int.toNat (w.1.2.1.length:Int)+1) 0 (List.replicate (Int.toNat (w.1.2.1.length:Int)) (0:Int)) (by omega) (by omega) ⟨by grind,fun j h=>absurd h (Nat.not_lt_zero j)⟩
 obtain⟨r,e,o,hr,ho⟩:=key
 grind
theorem vu(hs:SA w.1.1)(hT:FT w.1.1)(hf:w.2.1.length≤60)(hP:P.length≤4)(d b a:Int):
 (∀b a,fV w P d b a=none∧ja w P d b a=some false)∨
 (ja w P d b a=none∧CG w.1.1 w.1.2.1∧f44 w.1=some 0∧∃o ix fo se rs,fV w P d b a=some (true,o,w,some ix,d,a,true,dM w,(),some (mapA w w.1.2.1 P d b),some (mapA w w.1.2.1 P d a),rs,fo,se)∧OV w o∧VP P d∧MI w.1.1 (sR w P) (Up w P) (Oa w d a) (LL w w.1.2.1 0) fo se rs∧∀key,aQ aK (.slice 64 bH) key ix=iO key w.2.1):=by
 have hB:=hB
 obtain⟨v,ev,hv⟩:=Kp hs P hP d
 cases v with
 |
  false=>
  refine Or.inl fun b a=>⟨?_,?_⟩
  ·simp_all[fV]
  simp_all[ja]
 |
  true=>
  obtain⟨hcg,er0,hvp⟩:=hv rfl
  refine Or.inr ⟨?_,hcg,er0,?_⟩
  ·simp_all[ja]
  ·obtain⟨ix,e1,h1⟩:=Kb w (by omega) hs.sw.rules d a true
   have hM:=hcg.tg.many
   have hl:=hcg.rk.len
   unfold fV
   rw[ev,aM,aC (by decide),dZ _,aA (mr _),aA (by omega),e1,aM]
   dsimp only
   obtain⟨o,eo,hov⟩:=Kr (P:=P) hcg d b (some ix) d a true (dM w) () [] [] []
   rw[eo,aG]
   dsimp only
   obtain⟨fo1,se1,rs1,ea,_⟩:=Kq (d:=d) (k:=b) hs hT hf hcg er0 hP h1
   obtain⟨fo2,se2,rs2,eb,hI2⟩:=Kq (d:=d) (k:=a) hs hT hf hcg er0 hP h1
   unfold Ee
   grind
end
theorem vw{s:cp}{ch:Ru→Qy (Bool×List In)}{R:List Ru}{a p:Int}{O:Pl→An}:∀n c,((gM ch (fun u l=>jv s u p l) R a n c).run O).1.2.2.2.1=true→bP ((gM ch (fun u l=>jv s u p l) R a n c).run O).1.1=(a,(p,((0:Int),())))
 |0,_,h=>by trivial
 |
  n+1,c,h=>by
  unfold gM at h ⊢
  split at h
  ·rename_i hu
   rw[aA hu]
   rw[Qy.run_bind] at h ⊢
   dsimp only at h ⊢
   split at h
   ·rename_i hy
    rw[aA hy]
    show((nth bG R (c:Int)).2.1,(p,((0:Int),())))=_
    rw[hu]
   simp_all[vw]
  simp_all[vw]
theorem G2{s:cp}{V:Ky→Int×Bool}{a p i d:Int}:∀(n c:Nat)(t:Zf)(rs:List Rd),(k7 s V a p i d n c t rs).1=true→bP (k7 s V a p i d n c t rs).2.1=(a,(p,(i,())))
 |0,_,_,_,_=>rfl
 |
  n+1,c,t,rs,h=>by
  unfold k7 at h ⊢
  split at h
  ·simp_all[G2]
  grind
section
variable{w:bz} {lo:Zf} {d k:Int}
theorem WT{q:Pl}(h:(Oa w d k q).1=true):bP (Oa w d k q).2.1=q:=by
 unfold Oa oS at h ⊢
 split at h
 ·simp_all[G2]
 grind
theorem WU(hcg:CG w.1.1 lo){q:Pl}(hq:aQ (.int .i64) .bool q.1 (aY (dM w))=true→q.2.2.1=0)(h:((LL w lo 0 q).run (Oa w d k)).1.2.2.2.1=true):bP ((LL w lo 0 q).run (Oa w d k)).1.1=q:=by
 have e:LL w lo 0=LQ w.1.1 (dM w) lo:=aA rfl
 rw[e,GY hcg.rk.pre] at h ⊢
 unfold jW at h ⊢
 split at h
 ·rename_i hm
  rw[aA hm,vw _ _ h]
  grind
 ·rename_i hm
  rw[aC hm]
  exact WT h
theorem Sg(hcg:CG w.1.1 lo){a p i:Int}(h:(Fv (Oa w d k) (LL w lo 0) true (dM w) a p d i).1=true):bP (Fv (Oa w d k) (LL w lo 0) true (dM w) a p d i).2=(a,(p,(i,()))):=by
 unfold Fv at h ⊢
 split at h
 ·rename_i hl
  rw[aA hl]
  refine WU hcg (fun hm=>?_) h
  simp_all[xE]
 grind
theorem zV(hcg:CG w.1.1 lo){a p:Int}:∀(n c:Nat),∀x∈((vn (LL w lo 0) true (dM w) a p d n c).run (Oa w d k)).1,x.1=a∧x.2.1=p∧(c:Int)≤x.2.2.1∧x.2.2.1<(c:Int)+(n:Int)
 |0,_,x,hx=>by cases hx
 |
  n+1,c,x,hx=>by
  rw[vq] at hx
  dsimp only at hx
  have ih:=zV hcg (a:=a) (p:=p) n (c+1) x
  split at hx
  ·rename_i h
   rcases List.mem_cons.1 hx with e|hx
   ·have e1:=Sg hcg h
    rw[←e] at e1
    unfold bP at e1
    grind
   grind
  grind
theorem Eo(hcg:CG w.1.1 lo){a p:Int}:∀(n c:Nat),(((vn (LL w lo 0) true (dM w) a p d n c).run (Oa w d k)).1.map bP).Nodup
 |0,_=>List.nodup_nil
 |
  n+1,c=>by
  rw[vq]
  dsimp only
  split
  ·rename_i h
   rw[dy,kC]
   refine⟨fun hm=>?_,Eo hcg n (c+1)⟩
   obtain⟨x,hx,ex⟩:=List.mem_map.1 hm
   obtain⟨_,_,h3,_⟩:=zV hcg n (c+1) x hx
   rw[Sg hcg h] at ex
   unfold bP at ex
   grind
  ·exact Eo hcg n (c+1)
theorem Ep(hcg:CG w.1.1 lo){p:Int}:∀(n a:Nat),∀x∈((vo (LL w lo 0) true (dM w) p d n a).run (Oa w d k)).1,(a:Int)≤x.1∧x.1<(a:Int)+(n:Int)∧x.2.1=p∧0≤x.2.2.1∧x.2.2.1<4
 |0,_,x,hx=>by cases hx
 |
  n+1,a,x,hx=>by
  rw[pX] at hx
  rcases List.mem_append.1 hx with hx|hx
  ·obtain⟨h1,h2,h3,h4⟩:=zV hcg _ _ x hx
   have hn4:cP (dM w) (a:Int)≤4:=by unfold cP;grind
   grind
  ·obtain⟨h1,h2,h3⟩:=Ep hcg n (a+1) x hx
   grind
theorem Ks(hcg:CG w.1.1 lo){p:Int}:∀(n a:Nat),(((vo (LL w lo 0) true (dM w) p d n a).run (Oa w d k)).1.map bP).Nodup
 |0,_=>List.nodup_nil
 |
  n+1,a=>by
  rw[pX]
  dsimp only
  rw[im,kE]
  refine⟨Eo hcg _ _,Ks hcg n (a+1),fun q hq r hr e=>?_⟩
  obtain⟨x,hx,ex⟩:=List.mem_map.1 hq
  obtain⟨y,hy,ey⟩:=List.mem_map.1 hr
  have h1:=(zV hcg _ _ x hx).1
  have h2:=(Ep hcg n (a+1) y hy).1
  rw[←ex,←ey] at e
  unfold bP at e
  grind
theorem Si(hcg:CG w.1.1 lo){p:Int}:∀x∈AL w lo p d k,0≤x.1∧x.1<(w.1.1.2.2.1.length:Int)∧x.2.1=p∧0≤x.2.2.1∧x.2.2.1<4:=fun x hx=>by
 obtain⟨h1,h2,h3⟩:=Ep hcg w.1.1.2.2.1.length 0 x hx
 grind
theorem WV(hcg:CG w.1.1 lo){p:Int}:((AL w lo p d k).map bP).Nodup:=Ks hcg w.1.1.2.2.1.length 0
def CL(w:bz)(lo P:Zf)(d k:Int):List In:=P.flatMap fun p=>AL w lo p d k
theorem Sj(hcg:CG w.1.1 lo){P:Zf}:∀x∈CL w lo P d k,0≤x.1∧x.1<(w.1.1.2.2.1.length:Int)∧x.2.1∈P∧0≤x.2.2.1∧x.2.2.1<4:=fun x hx=>by
 obtain⟨p,hp,hx⟩:=List.mem_flatMap.1 hx
 obtain⟨h1,h2,h3,h4⟩:=Si hcg x hx
 grind
theorem Kt(hcg:CG w.1.1 lo):∀{P:Zf},P.Nodup→((CL w lo P d k).map bP).Nodup
 |[],_=>List.nodup_nil
 |
  p::P,h=>by
  obtain⟨h1,h2⟩:=List.nodup_cons.1 h
  show((AL w lo p d k++CL w lo P d k).map bP).Nodup
  rw[im,kE]
  refine⟨WV hcg,Kt hcg h2,fun q hq r hr e=>?_⟩
  obtain⟨x,hx,ex⟩:=List.mem_map.1 hq
  obtain⟨y,hy,ey⟩:=List.mem_map.1 hr
  have g1:=(Si hcg x hx).2.2.1
  have g2:=(Sj hcg y hy).2.2.1
  rw[←ex,←ey] at e
  unfold bP at e
  simp only[il,and_true] at e
  rw[←e.2.1,g1] at g2
  exact h1 g2
abbrev pr(x:In):Pl×In:=(bP x,x)
theorem Cq:∀(l:List In)(acc:List (Pl×In)),(acc.map (·.1)++l.map bP).Nodup→l.foldl rJ acc=acc++l.map pr
 |[],acc,_=>by rw[List.foldl_nil,List.map_nil,fH]
 |
  x::l,acc,h=>by
  have h1:bP x∉acc.map (·.1):=fun hm=>(List.nodup_append.1 h).2.2 _ hm _ (cC ..) rfl
  have e:rJ acc x=acc++[pr x]:=gm (kt:=aK) rfl h1
  rw[List.foldl_cons,e,Cq l _ (by rw[im,vG];exact h),vG]
  rfl
theorem uk(hcg:CG w.1.1 lo){P:Zf}(hP:P.Nodup):mapA w lo P d k=(CL w lo P d k).map pr:=by
 have e:mapA w lo P d k=(CL w lo P d k).foldl rJ []:=by
  unfold mapA CL
  rw[List.foldl_flatMap]
 grind [Cq,Kt]
end
theorem G3{k:Pl}{x:In}:∀{m:List (Pl×In)},(m.map (·.1)).Nodup→(k,x)∈m→aQ aK bp k m=x∧bT aK k m=true
 |[],_,h=>by cases h
 |
  e::m,hn,h=>by
  simp only[dy,kC] at hn
  rcases List.mem_cons.1 h with h|h
  ·subst h
   simp_all[cL,aQ,bT]
  ·obtain⟨h1,h2⟩:=G3 hn.2 h
   have e1:¬bl aK k e.1=true:=fun hh=>hn.1 (by
    simp_all[cL])
   simp_all[aQ,bT]
theorem nw{A R:Type}{q:DecidableEq R}{xs:List A}{K:A→List A→Option R}{r:R}(hne:xs≠[])(h:∀i(hi:i<xs.length),K xs[i] (xs.eraseIdx i)=some r):wg xs K=some r:=by
 match xs,hne,h with
 |
  x::l,_,h=>
  have h0:K x l=some r:=h 0 (by simp)
  simp only[wg,h0]
  grind
theorem vz{A R:Type}{q:DecidableEq R}:∀{n:Nat}{xs:List A}{K:List A→Option R}{r:R},xs.length≤n→(∀ys:List A,ys.Perm xs→K ys=some r)→wi n xs K=some r
 |0,[],_,_,_,h=>h [] (List.Perm.refl _)
 |_+1,[],_,_,_,h=>h [] (List.Perm.refl _)
 |0,_::_,_,_,hl,_=>by grind
 |
  n+1,x::l,K,r,hl,h=>by
  unfold wi
  refine nw (by simp) fun i hi=>?_
  refine vz (by rw[List.length_eraseIdx_of_lt hi];simp at hl hi ⊢;omega) fun ys hy=>?_
  exact h _ ((hy.cons _).trans (gJ (x::l) i hi).symm)
def Cr(a b:Int):Int:=if a<b then-1 else if b<a then 1 else 0
theorem zW(a b:Int):f30 a b=some (Cr a b):=by
 have e:∀x,f57 x=some false:=fun x=>by
  simp_all[f57]
 unfold f30 Cr
 grind
theorem or3(x y z:Int):f29 [x,y,z]=some (if x≠0 then x else if y≠0 then y else z):=by
 have st:∀(n:Nat)(i:Nat)(hi:i<3),oQ (n+1) ((0:Int),[x,y,z],3,(i:Int))=if[x,y,z][i]≠0 then some (.ret [x,y,z][i]) else oQ n ((0:Int),[x,y,z],3,((i+1:Nat):Int)):=by
  intro n i hi
  unfold oQ
  rw[aN]
  generalize aL _ n=rec
  dsimp only
  rw[cz (by omega),dZ i,aA (show(i:Int)<(List.length [x,y,z]:Int) by grind),cJ (t:=.int .i64) hi,bh (by omega)]
  by_cases h:[x,y,z][i]=0
  ·grind
  ·rw[aA (by grind),aA h];rfl
 have e0:=st 3 0 (by omega)
 have e1:=st 2 1 (by omega)
 have e2:=st 1 2 (by omega)
 have e3:oQ 1 ((0:Int),[x,y,z],3,((3:Nat):Int))=some (.brk 0):=rfl
 grind [f29,aG,di]
def rK(a b:Pl):Int:=if Cr a.1 b.1≠0 then Cr a.1 b.1 else if Cr a.2.1 b.2.1≠0 then Cr a.2.1 b.2.1 else Cr a.2.2.1 b.2.2.1
theorem G4(a b:Pl):f41 a b=some (rK a b):=by
 unfold f41
 rw[zW,aM,zW,aM,zW,aM,or3]
 rfl
theorem ny(a b:Pl):rK a b<0↔a.1<b.1∨a.1=b.1∧(a.2.1<b.2.1∨a.2.1=b.2.1∧a.2.2.1<b.2.2.1):=by
 grind [rK,Cr]
theorem Tm{a b:Pl}(h1:a.1=b.1)(h2:a.2.1=b.2.1)(h3:a.2.2.1=b.2.2.1):a=b:=by
 grind
theorem G5{a b:Pl}(h:a≠b):rK a b<0∨rK b a<0:=by
 rw[ny,ny]
 grind
theorem vA(a:Pl):¬rK a a<0:=by rw[ny];omega
theorem G6(a b c:Pl):rK a b<0→rK b c<0→rK a c<0:=by rw[ny,ny,ny];omega
theorem Ku{x y:In}(h:bP x=bP y)(hv:x.2.2.2.1=y.2.2.2.1):x=y:=by
 obtain⟨a1,a2,a3,a4,_⟩:=x
 simp_all[bP]
variable{B:List In}
theorem Sk(hB:(B.map bP).Nodup):∀{x y:In},x∈B→y∈B→bP x=bP y→x=y:=by
 induction B with
 |nil=>grind
 |
  cons b B ih=>
  grind
theorem Kv(hB:(B.map bP).Nodup):B.Nodup:=by
 have h:B.Pairwise fun x y=>bP x≠bP y:=List.pairwise_map.1 hB
 exact h.imp fun h e=>h (congrArg bP e)
theorem Tn(B:List In):(B.map pr).map (·.1)=B.map bP:=by simp_all
theorem zZ(hB:(B.map bP).Nodup){x:In}(hx:x∈B):aQ aK bp (bP x) (B.map pr)=x:=
 (G3 (m:=B.map pr) (by grind) (List.mem_map.2 ⟨x,hx,rfl⟩)).1
structure CO(B:List In):Prop where
 nd:(B.map bP).Nodup
 len:B.length≤100
 xI:∀x∈B,x.2.2.2.1.length≤1000
theorem WW(hB:CO B){x:In}(hx:x.2.2.2.1.length≤1000):
 (if !(bT aK (bP x) (aY (some (B.map pr)))) then(some true) else((f73 x.2.2.2.1 (((((aQ aK bp (bP x) (aY (some (B.map pr)))).2).2).2).1)).bind fun y6=>some (!y6)))=some (!decide (x∈B)):=by
 have hM:=hB.len
 have hMB:aH=140737488355328:=rfl
 by_cases hm:bP x∈B.map bP
 ·obtain⟨y,hy,ey⟩:=List.mem_map.1 hm
  have h1:bT aK (bP x) (aY (some (B.map pr)))=true:=(dg (kt:=aK) rfl).2 (by
   show bP x∈(B.map pr).map (·.1)
   grind)
  have h2:aQ aK bp (bP x) (aY (some (B.map pr)))=y:=by rw[←ey];exact zZ hB.nd hy
  rw[h1,h2,aC (by decide),yn _ _ (by omega),aM]
  refine congrArg (fun b=>some (!b)) (decide_eq_decide.2 ⟨fun h=>?_,fun h=>?_⟩)
  ·rw[Ku ey.symm h];exact hy
  ·rw[Sk hB.nd h hy ey.symm]
 ·have h1:¬bT aK (bP x) (aY (some (B.map pr)))=true:=fun h=>hm (by
   have:=(dg (kt:=aK) rfl).1 h
   rw[←Tn];trivial)
  grind
def ma(A B:List In):List In:=A.filter fun x=> !decide (x∈B)
variable{A:List In}
theorem gN{x:In}:x∈ma A B↔x∈A∧x∉B:=by simp[ma,List.mem_filter]
theorem CO.ma(h:CO A)(B:List In):CO (ma A B):=
 ⟨(List.filter_sublist.map bP).nodup h.nd,de (yv ..) h.len,fun x hx=>h.xI x (gN.1 hx).1⟩
theorem CO.perm(h:CO A)(hp:B.Perm A):CO B:=
 ⟨(hp.map bP).nodup_iff.2 h.nd,by rw[hp.length_eq];exact h.len,fun x hx=>h.xI x (hp.mem_iff.1 hx)⟩
theorem z8(h:(A.map bP).Nodup):∃ys,ys.Perm A∧∀zs,zs.Perm A→AN zs=some ys:=by
 refine yH (f:=fun x y=>rK (bP x) (bP y)) (fun x y=>?_) (fun x=>vA _) (fun x y z=>G6 _ _ _) ?_
 ·simp_all[f75,f52,bP,G4]
 ·exact(List.pairwise_map.1 h).imp fun h=>G5 h
theorem jx(hA:CO A)(hB:CO B):∃Z,DH (some (A.map pr)) (some (B.map pr))=some Z∧Z.Perm (ma A B):=by
 have hMB:aH=140737488355328:=rfl
 obtain⟨Z,hZ,hs⟩:=z8 (hA.ma B).nd
 refine⟨Z,?_,hZ⟩
 have hl:=(hA.ma B).len
 have key:∀(n:Nat)(es:List (Pl×In))(b:List In),es.length<n→(∀e∈es,e.1=bP e.2∧e.2.2.2.2.1.length≤1000)→(b++ma (es.map (·.2)) B).Perm (ma A B)→uI n (some (B.map pr),es,b)=some Z:=by
  intro n
  induction n with
  |zero=>grind
  |
   succ n ih=>
   intro es b hn hes hp
   unfold uI at ih ⊢
   rw[aN]
   generalize aL _ n=rec at ih ⊢
   dsimp only
   cases es with
   |
    nil=>
    simp_all[ma]
   |
    cons e0 l0=>
    rw[aC (by simp)]
    refine nw (by simp) fun i hi=>?_
    obtain⟨he,hv⟩:=hes _ (fb hi)
    have hl2:((e0::l0).eraseIdx i).length<n:=by
     grind
    have amz:∀e∈(e0::l0).eraseIdx i,e.1=bP e.2∧e.2.2.2.2.1.length≤1000:=fun e h'=>hes e (List.mem_of_mem_eraseIdx h')
    have hpk:((e0::l0).map (·.2)).Perm ((e0::l0)[i].2::((e0::l0).eraseIdx i).map (·.2)):=(gJ (e0::l0) i hi).map (·.2)
    have hf:=(hpk.filter (fun x=> !decide (x∈B))).append_left b
    generalize (e0::l0)[i]=e at he hv hf
    generalize (e0::l0).eraseIdx i=l at hl2 amz hf
    obtain⟨k,x⟩:=e
    dsimp only at he hv
    subst he
    have q1:=WW hB hv
    dsimp only
    rw[q1,aM]
    by_cases hx:x∈B
    ·rw[cD hx,aC (by decide)]
     refine ih l b hl2 amz (List.Perm.trans ?_ hp)
     refine List.Perm.trans ?_ hf.symm
     rw[vH,cD hx]
     trivial
    ·rw[dp hx,aA (by decide)]
     have hq:((b++[x])++ma (l.map (·.2)) B).Perm (ma A B):=by
      refine List.Perm.trans ?_ hp
      refine List.Perm.trans ?_ hf.symm
      rw[vH,dp hx,vG]
      trivial
     have hql:=hq.length_eq
     grind
 refine key _ (A.map pr) [] (by simp[aY]) (fun e he=>?_) ?_
 ·obtain⟨x,hx,rfl⟩:=List.mem_map.1 he
  exact⟨rfl,hA.xI x hx⟩
 ·have e:(A.map pr).map (·.2)=A:=by rw[iq];exact List.map_id' A
  grind
abbrev Sp:=UJ
abbrev Ik:=Wy
def kS(k:Int)(f:Bool)(x:In):Sp×Ik:=((k,bP x),(bP x,(f,())))
def rL(ST FR:List In):List (Sp×Ik):=ST.map (kS 2 false)++FR.map (kS 1 true)
theorem Aa(ST FR:List In):(rL ST FR).map (·.1)=(ST.map bP).map (fun p=>(((2:Int),p):Sp))++(FR.map bP).map fun p=>(((1:Int),p):Sp):=by
 unfold rL
 rw[im,iq,iq,iq,iq]
 rfl
theorem um{k:Int}{l:List Pl}(h:l.Nodup):(l.map fun p=>((k,p):Sp)).Nodup:=List.Pairwise.map _ (fun _ _ hab e=>hab (Prod.mk.inj e).2) h
variable{FR:List In}
theorem Kw{ST:List In}(hS:CO ST)(hF:CO FR):((rL ST FR).map (·.1)).Nodup:=by
 rw[Aa,kE]
 refine⟨um hS.nd,um hF.nd,fun a ha b hb e=>?_⟩<;>grind
def Kn(ST FR:List In)(s:Sp):Prop:=s.1=2∧s.2∈ST.map bP∨s.1=1∧s.2∈FR.map bP
theorem G7{ST:List In}(s:Sp):bT bC s (rL ST FR)=true↔Kn ST FR s:=by
 rw[dg (kt:=bC) rfl,Aa,iW,qb,qb]
 constructor
 ·rintro(⟨p,hp,rfl⟩|⟨p,hp,rfl⟩)
  ·exact Or.inl ⟨rfl,hp⟩
  ·exact Or.inr ⟨rfl,hp⟩
 ·rintro(⟨h1,h2⟩|⟨h1,h2⟩)<;>grind
theorem Cs{vt:Ty}(hk:kt.keyed=true){k:kt.den}{v:vt.den}:∀{m:List (kt.den×vt.den)},(m.map (·.1)).Nodup→(k,v)∈m→aQ kt vt k m=v
 |[],_,h=>by cases h
 |
  e::m,hn,h=>by
  simp only[dy,kC] at hn
  have eq:∀x y,bl kt x y=true↔x=y:=cL kt
  rcases List.mem_cons.1 h with h|h
  ·subst h
   simp_all[aQ]
  ·have e1:¬bl kt k e.1=true:=fun hh=>hn.1 (by
    grind)
   simp only[aQ,e1]
   exact Cs hk hn.2 h
theorem N2{ST:List In}(hS:CO ST)(hF:CO FR){s:Sp}(h:Kn ST FR s):aQ bC dG s (rL ST FR)=(s.2,(decide (s.1=1),())):=by
 refine Cs rfl (Kw hS hF) ?_
 unfold rL
 rcases h with⟨h1,h2⟩|⟨h1,h2⟩
 ·obtain⟨x,hx,ex⟩:=List.mem_map.1 h2
  refine kA _ (List.mem_map.2 ⟨x,hx,?_⟩)
  unfold kS
  rw[ex,h1]
  grind
 ·obtain⟨x,hx,ex⟩:=List.mem_map.1 h2
  refine lP _ (List.mem_map.2 ⟨x,hx,?_⟩)
  unfold kS
  grind
theorem st3{R:Type}{L:Nat→(List In)×(List In)×Int×Int×(List (Sp×Ik))→Option (cK ((List In)×(List (Sp×Ik))) R)}(hL:L=aL fun amb ⟨e,c,b,a,d⟩=>if decide (a<b) then(if 0≤a then(if a<(c.length:Int) then((f24 (2:Int) (nth bp c a)).bind fun y4=>(f52 (nth bp c a)).bind fun y5=>if d.length+1≤aH then(amb (e,c,b,bq (a+(1:Int)),aX bC y4 (y5,(false,())) d)) else none) else none) else none) else(some (.brk (e,d)))){ST:List In}(hS:CO ST)(n:Nat)(hn:ST.length<n):
 L n (FR,ST,(ST.length:Int),0,[])=some (.brk (FR,ST.map (kS 2 false))):=by
 have hM:aH=140737488355328:=rfl
 have hl:=hS.len
 obtain⟨r,e,hr⟩:=cd hL (fun r=>r= .brk (FR,ST.map (kS 2 false))) ST.length (fun c(s:List (Sp×Ik))=>(FR,ST,(ST.length:Int),(c:Int),s)) (fun c s=>s=(ST.take c).map (kS 2 false)) (by
  intro rec c s hc hs kk
  have hsl:s.length≤1000:=by grind
  dsimp only
  rw[cz (by omega),dZ c,aA (by omega),cJ (t:=bp) hc,bh (by omega)]
  show W (Option.bind (some ((2:Int),bP ST[c])) fun y4=>Option.bind (some (bP ST[c])) fun y5=>_) _
  rw[aM,aM,aA (by omega)]
  refine kk _ ?_
  rw[gm (kt:=bC) rfl,hs,List.take_succ_eq_append_getElem hc,im]
  ·rfl
  ·intro hm
   rw[hs,iq] at hm
   obtain⟨x,hx,ex⟩:=List.mem_map.1 hm
   have h1:=hS.nd
   have h2:(ST.take (c+1)).map bP=(ST.take c).map bP++[bP ST[c]]:=by rw[List.take_succ_eq_append_getElem hc,im];rfl
   have h3:((ST.take (c+1)).map bP).Nodup:=((List.take_sublist (c+1) ST).map bP).nodup h1
   rw[h2,kE] at h3
   exact h3.2.2 _ (List.mem_map.2 ⟨x,hx,rfl⟩) _ (List.mem_singleton.2 rfl) (Prod.mk.inj ex).2) (by
  intro rec s hs
  dsimp only
  rw[aC (by grind)]
  refine⟨_,rfl,?_⟩<;>grind) n 0 [] (by omega) (by omega) rfl
 grind
theorem st8{R:Type}{L:Nat→(List In)×Int×Int×(List (Sp×Ik))→Option (cK (List (Sp×Ik)) R)}(hL:L=aL fun rec8 ⟨c,b,a,d⟩=>if decide (a<b) then(if 0≤a then(if a<(c.length:Int) then((f24 (1:Int) (nth bp c a)).bind fun y9=>(f52 (nth bp c a)).bind fun y10=>if d.length+1≤aH then(rec8 (c,b,bq (a+(1:Int)),aX bC y9 (y10,(true,())) d)) else none) else none) else none) else(some (.brk d))){ST:List In}(hS:CO ST)(hF:CO FR)(n:Nat)(hn:FR.length<n):
 L n (FR,(FR.length:Int),0,ST.map (kS 2 false))=some (.brk (rL ST FR)):=by
 have hM:aH=140737488355328:=rfl
 have hl:=hS.len
 have hl2:=hF.len
 obtain⟨r,e,hr⟩:=cd hL (fun r=>r= .brk (rL ST FR)) FR.length (fun c(s:List (Sp×Ik))=>(FR,(FR.length:Int),(c:Int),s)) (fun c s=>s=rL ST (FR.take c)) (by
  intro rec c s hc hs kk
  have hsl:s.length≤2000:=by grind [rL]
  dsimp only
  rw[cz (by omega),dZ c,aA (by omega),cJ (t:=bp) hc,bh (by omega)]
  show W (Option.bind (some ((1:Int),bP FR[c])) fun y4=>Option.bind (some (bP FR[c])) fun y5=>_) _
  rw[aM,aM,aA (by omega)]
  refine kk _ ?_
  have hnd:((rL ST (FR.take (c+1))).map (·.1)).Nodup:=Kw hS ⟨((List.take_sublist _ _).map bP).nodup hF.nd,by grind,fun x hx=>hF.xI x (List.mem_of_mem_take hx)⟩
  have hk:rL ST (FR.take (c+1))=rL ST (FR.take c)++[kS 1 true FR[c]]:=by
   grind [rL,List.take_succ_eq_append_getElem]
  rw[hk,im,kE] at hnd
  rw[gm (kt:=bC) rfl,hs,hk]
  ·rfl
  ·intro hm
   rw[hs] at hm
   exact hnd.2.2 _ hm _ (List.mem_singleton.2 rfl) rfl) (by
  intro rec s hs
  dsimp only
  rw[aC (by grind)]
  refine⟨_,rfl,?_⟩<;>grind) n 0 (ST.map (kS 2 false)) (by omega) (by omega) (by unfold rL;simp)
 grind
theorem Kx{ST:List In}(hS:CO ST)(hF:CO FR):f58 ST FR=some (some (rL ST FR)):=by
 unfold f58
 rw[st3 (L:=MZ) rfl hS _ (by omega),aG]
 dsimp only
 rw[st8 (L:=M0) rfl hS hF _ (by omega),aG]
structure FZ(z:List (Ik×Bool))(M:Ik→Prop):Prop where
 nd:(z.map (·.1)).Nodup
 mem:∀k,k∈z.map (·.1)↔M k
theorem IU(hk:kt.keyed=true){k p:kt.den}{v:α}{z:List (kt.den×α)}:p∈(aX kt k v z).map (·.1)↔p=k∨p∈z.map (·.1):=by
 rw[←dg hk,←dg hk]
 by_cases h:p=k
 ·simp_all[fL]
 grind [lq]
theorem rM(hk:kt.keyed=true){k p:kt.den}:∀{z:List (kt.den×α)},(z.map (·.1)).Nodup→(p∈(iU kt k z).map (·.1)↔p≠k∧p∈z.map (·.1))
 |[],_=>by simp[iU]
 |
  e::z,hn=>by
  simp only[dy,kC] at hn
  by_cases h:k=e.1
  ·have e1:bl kt k e.1=true:=(cL kt _ _).2 h
   simp only[iU,e1,cj,dy,fa]
   grind
  ·have e1:¬bl kt k e.1=true:=fun hh=>h ((cL kt _ _).1 hh)
   simp only[iU,e1,dy,fa]
   have ih:=rM hk (k:=k) (p:=p) hn.2
   grind
def MP(O ST FR:List In)(l:List Sp)(k:Ik):Prop:=if k.2.1=true then((1:Int),k.1)∈l∧k.1∈FR.map bP else k.1∈O.map bP∧¬(((2:Int),k.1)∈l∧k.1∈ST.map bP)
def sS(ST:List In)(l:List Sp)(x:In):Bool:= !(decide (((2:Int),bP x)∈l)&&decide (bP x∈ST.map bP))
theorem rN{ST:List In}{l:List Sp}{x:In}:sS ST l x=true↔¬(((2:Int),bP x)∈l∧bP x∈ST.map bP):=by
 unfold sS
 grind
def VK(O ST FR:List In)(l:List Sp):List Ik:=((O.filter (sS ST l)).map fun x=>((bP x,(false,())):Ik))++(FR.filter fun x=>decide (((1:Int),bP x)∈l)).map fun x=>(bP x,(true,()))
variable{O:List In}
theorem Kz{ST:List In}{l:List Sp}(k:Ik):k∈VK O ST FR l↔MP O ST FR l k:=by
 obtain⟨p,f,_⟩:=k
 unfold VK MP
 rw[iW,qb,qb]
 cases f with
 |
  true=>
  grind
 |
  false=>
  rw[aC (by simp)]
  constructor
  ·rintro(⟨x,hx,e⟩|⟨x,_,e⟩)
   ·have e:=(Prod.mk.inj e).1
    rw[List.mem_filter] at hx
    dsimp only
    rw[←e]
    exact⟨List.mem_map.2 ⟨x,hx.1,rfl⟩,rN.1 hx.2⟩
   grind
  grind [rN]
theorem Sl{f:Bool}(h:(A.map bP).Nodup):(A.map fun x=>((bP x,(f,())):Ik)).Nodup:=
 List.Pairwise.map _ (fun _ _ hab e=>hab (Prod.mk.inj e).1) (List.pairwise_map.1 h)
theorem G8{ST:List In}(hO:CO O)(hF:CO FR)(l:List Sp):(VK O ST FR l).Nodup:=by
 unfold VK
 rw[kE]
 refine⟨Sl ((List.filter_sublist.map bP).nodup hO.nd),Sl ((List.filter_sublist.map bP).nodup hF.nd),fun a ha b hb e=>?_⟩<;>grind
theorem Er{ST:List In}(hO:CO O)(hF:CO FR)(l:List Sp):(VK O ST FR l).length≤2000:=by
 have h1:=yv (sS ST l) O
 have h2:=yv (fun x=>decide (((1:Int),bP x)∈l)) FR
 have:=hO.len
 have:=hF.len
 grind [VK]
theorem FZ.perm{ST:List In}(hO:CO O)(hF:CO FR){z:List (Ik×Bool)}{l:List Sp}(h:FZ z (MP O ST FR l)):(z.map (·.1)).Perm (VK O ST FR l):=
 (List.perm_ext_iff_of_nodup h.nd (G8 hO hF l)).2 fun k=>by rw[h.mem,Kz]
theorem FZ.len{ST:List In}(hO:CO O)(hF:CO FR){z:List (Ik×Bool)}{l:List Sp}(h:FZ z (MP O ST FR l)):z.length≤2000:=by
 have:=(h.perm hO hF).length_eq
 grind [Er]
theorem pY{s:Sp}{k:Int}{p:Pl}{l:List Sp}:((k,p):Sp)∈l++[s]↔((k,p):Sp)∈l∨(s.1=k∧s.2=p):=by
 grind
section
variable{O ST FR:List In} {z:List (Ik×Bool)} {l:List Sp} {s:Sp}
theorem FZ.WZ(h:FZ z (MP O ST FR l))(h1:s.1=1)(h2:s.2∈FR.map bP):FZ (aX dG (s.2,(true,())) true z) (MP O ST FR (l++[s])):=by
 refine⟨cT (kt:=dG) rfl h.nd,fun k=>?_⟩
 rw[IU (kt:=dG) rfl,h.mem]
 obtain⟨p,f,_⟩:=k
 unfold MP
 grind
theorem FZ.IV(h:FZ z (MP O ST FR l))(h1:s.1=2)(h2:s.2∈ST.map bP):FZ (iU dG (s.2,(false,())) z) (MP O ST FR (l++[s])):=by
 refine⟨((nf (kt:=dG)).map _).nodup h.nd,fun k=>?_⟩
 rw[rM (kt:=dG) rfl h.nd,h.mem]
 obtain⟨p,f,_⟩:=k
 unfold MP
 grind
theorem FZ.other(h:FZ z (MP O ST FR l))(hs:¬Kn ST FR s):FZ z (MP O ST FR (l++[s])):=by
 refine⟨h.nd,fun k=>?_⟩
 rw[h.mem]
 obtain⟨p,f,_⟩:=k
 unfold MP
 rw[pY,pY]
 cases f with
 |
  true=>
  simp only[cj]
  refine⟨fun h3=>⟨Or.inl h3.1,h3.2⟩,fun h3=>⟨h3.1.resolve_right fun h4=>hs (Or.inr ⟨h4.1,by rw[h4.2];exact h3.2⟩),h3.2⟩⟩<;>grind
 |
  false=>
  simp only[aC (show¬(false=true) by decide)]
  refine⟨fun h3=>⟨h3.1,fun h4=>h3.2 ⟨h4.1.resolve_right fun h5=>hs (Or.inl ⟨h5.1,by rw[h5.2];exact h4.2⟩),h4.2⟩⟩,fun h3=>⟨h3.1,fun h4=>h3.2 ⟨Or.inl h4.1,h4.2⟩⟩⟩<;>grind
end
def sl(l:List Ik):List Ik:=ua (gq dG) l
theorem uq{l m:List Ik}(h:l.Perm m):sl l=sl m:=by
 obtain⟨h1,h2,h3⟩:=wW (t:=dG) rfl
 exact Pp h1 h3 h fun x _ y _=>h2 x y
theorem G9{l:List Ik}:(sl l).Perm l:=sq
theorem N3:∀(n:Nat)(es:List (Ik×Bool))(c0:List Ik),es.length<n→c0.length+es.length≤4000→fO n (es,sl c0)=some (.brk (sl (c0++es.map (·.1)))):=by
 have hM:aH=140737488355328:=rfl
 intro n
 induction n with
 |zero=>grind
 |
  succ n ih=>
  intro es c0 hn hl
  unfold fO at ih ⊢
  rw[aN]
  generalize aL _ n=rec at ih ⊢
  dsimp only
  cases es with
  |
   nil=>
   grind
  |
   cons e0 l0=>
   rw[aC (by simp)]
   refine nw (by simp) fun i hi=>vz (dN _) fun q hq=>?_
   have hl2:((e0::l0).eraseIdx i).length=l0.length:=by grind
   have hpk:=(gJ (e0::l0) i hi).map (·.1)
   rw[gI] at hl hn
   generalize (e0::l0)[i]=e at hpk
   generalize (e0::l0).eraseIdx i=m at hl2 hpk
   have hq2:=hq.trans G9
   have hql:=hq2.length_eq
   have e1:ua (gq dG) (q++[e.1])=sl (c0++[e.1]):=uq (hq2.append_right _)
   rw[e1,aA (by grind),ih m (c0++[e.1]) (by omega) (by grind)]
   refine congrArg (fun x=>some (cK.brk x)) (uq ?_)<;>grind
theorem Ha{l:List Sp}{n:Nat}(h:n<l.length)(z:List (Ik×Bool))(last:List Ik):rV l (n:Int) (some z) last=some last:=by
 simp_all[rV]
theorem KA{l:List Sp}(z:List (Ik×Bool))(hz:z.length≤2000):rV l (l.length:Int) (some z) []=some (sl (z.map (·.1))):=by
 unfold rV
 rw[aC (by grind)]
 have e:=N3 (z.length+1) z [] (by omega) (by grind)
 have e:fO (List.length (aY (some z))+1) (aY (some z),[])=_:=e
 grind
section
variable{O ST FR:List In}
theorem IW(hO:CO O)(hS:CO ST)(hF:CO FR){l:List Sp}(hl:l.length≤1000):∀(n i:Nat)(z:List (Ik×Bool)),l.length -i<n→i≤l.length→FZ z (MP O ST FR (l.take i))→
 RU l (some (rL ST FR)) n (i:Int) z (if i=l.length then sl (VK O ST FR l) else[])=some (sl (VK O ST FR l)):=by
 have hM:aH=140737488355328:=rfl
 intro n
 induction n with
 |zero=>grind
 |
  succ n ih=>
  intro i z hn hi hz
  unfold RU
  by_cases h:i<l.length
  ·have hw:=nE i (by omega)
   have hzl:=hz.len hO hF
   have et:l.take (i+1)=l.take i++[l[i]]:=List.take_succ_eq_append_getElem h
   rw[cz (by omega),dZ i,aA (by omega),cJ (t:=bC) h,hw,aC (show¬i=l.length by omega)]
   have go:∀z',FZ z' (MP O ST FR (l.take (i+1)))→(rV l ((i+1:Nat):Int) (some z') []).bind (fun amy=>RU l (some (rL ST FR)) n ((i+1:Nat):Int) z' amy)=some (sl (VK O ST FR l)):=by
    intro z' hz'
    by_cases he:i+1=l.length
    ·have:=ih (i+1) z' (by omega) (by omega) hz'
     rw[aA he] at this
     have e2:rV l ((i+1:Nat):Int) (some z') []=some (sl (VK O ST FR l)):=by
      rw[he,KA z' (hz'.len hO hF)]
      rw[he,List.take_length] at hz'
      exact congrArg some (uq (hz'.perm hO hF))
     grind
    ·have:=ih (i+1) z' (by omega) (by omega) hz'
     rw[aC he] at this
     rw[Ha (by omega)]
     grind
   by_cases hk:Kn ST FR l[i]
   ·have h1:bT bC l[i] (aY (some (rL ST FR)))=true:=(G7 _).2 hk
    have h2:aQ bC dG l[i] (aY (some (rL ST FR)))=(l[i].2,(decide (l[i].1=1),())):=N2 hS hF hk
    rw[aA h1,h2]
    rcases hk with⟨k1,k2⟩|⟨k1,k2⟩
    ·have e:decide (l[i].1=1)=false:=dp (by omega)
     rw[e,aC (show¬(false=true) by decide)]
     exact go _ (by rw[et];exact hz.IV k1 k2)
    ·have e:decide (l[i].1=1)=true:=cD k1
     rw[e,aA rfl,aA (by omega)]
     exact go _ (by rw[et];exact hz.WZ k1 k2)
   ·rw[aC (show¬bT bC l[i] (aY (some (rL ST FR)))=true from fun h'=>hk ((G7 _).1 h'))]
    exact go _ (by rw[et];exact hz.other hk)
  grind
theorem KB(hO:CO O)(hS:CO ST)(hF:CO FR){l:List Sp}(hl:l.length≤1000):∀(n:Nat)(es:List (Pl×In))(z:List (Ik×Bool)),es.length<n→(z.map (·.1)++es.map fun e=>((e.1,(false,())):Ik)).Perm (VK O ST FR [])→
 Ve l (some (rL ST FR)) n z es []=some (sl (VK O ST FR l)):=by
 have hM:aH=140737488355328:=rfl
 have hv:=Er (ST:=ST) hO hF []
 intro n
 induction n with
 |zero=>grind
 |
  succ n ih=>
  intro es z hn hp
  unfold Ve
  cases es with
  |
   nil=>
   rw[aA (show List.isEmpty ([]:List (Pl×In))=true from rfl)]
   rw[List.map_nil,fH] at hp
   have hz:FZ z (MP O ST FR []):=⟨hp.nodup_iff.2 (G8 hO hF []),fun k=>by rw[hp.mem_iff,Kz]⟩
   have key:=IW hO hS hF hl (Int.toNat (l.length:Int)+1) 0 z (by omega) (by omega) (by grind)
   by_cases he:0=l.length
   ·have hl0:l= []:=List.length_eq_zero_iff.1 he.symm
    rw[aA he] at key
    have e2:rV l (0:Int) (some z) []=some (sl (VK O ST FR l)):=by
     have:=KA (l:=l) z (hz.len hO hF)
     rw[←he] at this
     rw[show(0:Int)=((0:Nat):Int) from rfl,this,hl0]
     exact congrArg some (uq (hz.perm hO hF))
    grind
   ·rw[aC he] at key
    grind [Ha]
  |
   cons e0 l0=>
   rw[aC (by simp)]
   refine nw (by simp) fun i hi=>?_
   have hl2:((e0::l0).eraseIdx i).length=l0.length:=by grind
   have hpk:=(gJ (e0::l0) i hi).map fun e=>((e.1,(false,())):Ik)
   rw[gI] at hn
   generalize (e0::l0)[i]=e at hpk
   generalize (e0::l0).eraseIdx i=m at hl2 hpk
   have hp2:=((hpk.append_left (z.map (·.1))).symm).trans hp
   have hzl:z.length≤2000:=by
    have:=hp.length_eq
    grind
   rw[aA (by omega)]
   have hnew:aX dG (e.1,(false,())) true z=z++[((e.1,(false,())),true)]:=gm (kt:=dG) rfl fun hm=>by
    have:=hp2.nodup_iff.2 (G8 hO hF [])
    grind
   grind
theorem IY(x y:Ik):f40 x y=some (if x.1=y.1∧x.2.1≠y.2.1 then(if y.2.1=true then-1 else 1) else rK x.1 y.1):=by
 unfold f40
 rw[G4]
 by_cases h:x.1=y.1
 ·rw[aA ((cL aK _ _).2 h),aM]
  grind
 simp_all[cL]
def To(x y:Ik):Int:=if x.1=y.1∧x.2.1≠y.2.1 then(if y.2.1=true then-1 else 1) else rK x.1 y.1
theorem pZ(x y:Ik):To x y<0↔rK x.1 y.1<0∨x.1=y.1∧x.2.1=false∧y.2.1=true:=by
 unfold To
 by_cases h:x.1=y.1
 ·grind [vA]
 grind
theorem Es{A:List Ik}(h:A.Nodup):∃ys,ys.Perm A∧∀zs,zs.Perm A→BM zs=some ys:=by
 refine yH (f:=To) IY (fun x=>?_) (fun x y z=>?_) ?_
 ·simp_all[pZ,vA]
 ·rw[pZ,pZ,pZ]
  rintro(h1|⟨h1,h2,h3⟩) (g1|⟨g1,g2,g3⟩)
  ·exact Or.inl (G6 _ _ _ h1 g1)
  ·grind
  ·grind
  grind
 grind [List.Pairwise.imp,pZ,G5]
end
theorem yp{k:kt.den}:∀{z:List (kt.den×α)},k∈z.map (·.1)→(z.map (·.1)).Perm (k::(iU kt k z).map (·.1))
 |[],h=>by cases h
 |
  e::z,h=>by
  unfold iU
  by_cases he:bl kt k e.1=true
  ·simp_all[cL]
  ·rw[aC he]
   have h2:k∈z.map (·.1):=by
    grind [cL]
   exact((yp h2).cons e.1).trans (List.Perm.swap ..)
def KK(O N:List In):List Sp:=((ma O N).map bP).map (fun p=>(((2:Int),p):Sp))++((ma N O).map bP).map fun p=>(((1:Int),p):Sp)
section
variable{O N:List In} {l:List Sp}
theorem KC(hO:CO O)(hN:CO N)(o:Zf):∃Z,BN o (some (O.map pr)) (some (N.map pr))=some Z∧Z.Perm (ma O N):=by
 grind [jx,BN]
theorem KD(hO:CO O)(hN:CO N)(o:Zf):∃Z,BO o (some (O.map pr)) (some (N.map pr))=some Z∧Z.Perm (ma N O):=by
 grind [jx,BO]
theorem IZ{ST FR:List In}(hS:CO ST)(hF:CO FR):BP ST FR=some (rL ST FR):=by
 unfold BP
 rw[st3 (L:=zA) rfl hS _ (by omega),aG]
 dsimp only
 rw[st8 (L:=zB) rfl hS hF _ (by omega),aG]
theorem Tq{ST FR:List In}(hS:ST.Perm (ma O N))(hF:FR.Perm (ma N O)):((rL ST FR).map (·.1)).Perm (KK O N):=by
 rw[Aa]
 exact((hS.map bP).map _).append ((hF.map bP).map _)
theorem Ct(hO:CO O)(hN:CO N)(o:Zf)(hl:l.length≤1000):∃r,pK o (some (O.map pr)) (some (N.map pr)) l=some r∧(r=true↔l.Perm (KK O N)):=by
 have hM:aH=140737488355328:=rfl
 obtain⟨ST,e1,hS⟩:=KC hO hN o
 obtain⟨FR,e2,hF⟩:=KD hO hN o
 have cS:=(hO.ma N).perm hS
 have cF:=(hN.ma O).perm hF
 have hK:=Tq hS hF
 suffices hW:W (pK o (some (O.map pr)) (some (N.map pr)) l) fun r=>r=true↔l.Perm (KK O N) by
  trivial
 unfold pK
 rw[e1,aM,e2,aM,IZ cS cF,aM]
 have h2:=hK.length_eq
 rw[sX] at h2
 split
 ·rename_i hlen
  simp only[gS,decide_eq_false_iff_not] at hlen
  exact⟨_,rfl,fun h=>(by cases h),fun h=>absurd h.length_eq (by omega)⟩
 ·rename_i hlen
  have hlen:l.length=(rL ST FR).length:=by grind
  refine bK.2 (W.ct (cd (L:=zC) rfl (CT (fun _=>l.Perm (KK O N)) fun r=>r=false∧¬l.Perm (KK O N)) l.length (fun c(d:List (Sp×Ik))=>(l,(l.length:Int),(c:Int),d)) (fun c d=>(l.take c++d.map (·.1)).Perm (KK O N)) ?step ?stop _ 0 (rL ST FR) (by omega) (by omega) (by grind)) (fun _ h=>?_) fun r h=>?_)
  case step=>
   intro rec c d hc hd kk
   dsimp only
   rw[cz (by omega),dZ c,aA (by omega),cJ (t:=bC) hc,bh (by omega)]
   split
   ·rename_i hm
    refine⟨_,rfl,rfl,fun hp=>?_⟩
    have h3:=hd.trans hp.symm
    rw[←kz c l,CE (by grind),qe,Nat.min_self,List.perm_append_left_iff] at h3
    have h4:l[c]∈d.map (·.1):=h3.mem_iff.2 (by grind [lO])
    rw[(dg (kt:=bC) rfl).2 h4] at hm
    cases hm
   ·rename_i hm
    have hm:bT bC l[c] d=true:=by grind
    refine kk _ ?_
    have hp:=yp ((dg (kt:=bC) rfl).1 hm)
    grind [List.take_succ_eq_append_getElem]
  case stop=>
   intro rec d hd
   dsimp only
   rw[aC (by grind)]
   refine⟨_,rfl,?_⟩
   rw[List.take_length] at hd
   have h1:=hd.length_eq
   rw[mb] at h1
   have h3:d.map (·.1)= []:=List.length_eq_zero_iff.1 (by omega)
   rw[h3,fH] at hd
   exact hd
  ·exact⟨_,rfl,fun _=>h,fun _=>rfl⟩
  grind
end
abbrev Ow:=rz
def ow(p:Pl):Ow:=(p.1,(p.2.1,()))
theorem Cu(p:Pl):f59 p=some (ow p):=rfl
def Et(f:Ow→Int)(o:Ow)(v:Int):Ow→Int:=fun q=>if q=o then v else f q
def kp(b:Ow→Bool):(Ow→Int)→List Sp→Bool
 |_,[]=>true
 |f,s::l=>if b (ow s.2)&&decide (Et f (ow s.2) (if s.1=1 then f (ow s.2)+1 else f (ow s.2) -1) (ow s.2)<1) then false else kp b (Et f (ow s.2) (if s.1=1 then f (ow s.2)+1 else f (ow s.2) -1)) l
theorem qa{k:kt.den}{v:α}:∀{z:List (kt.den×α)},bT kt k z=true→(aX kt k v z).length=z.length
 |[],h=>by cases h
 |
  e::z,h=>by
  unfold aX
  by_cases he:bl kt k e.1=true
  ·grind
  simp_all[bT,qa]
structure Tr(j:List (Ow×Int))(f:Ow→Int)(n:Nat):Prop where
 get:∀o,aQ bw (.int .i64) o j=f o
 len:j.length≤n
 bd:∀o,-(n:Int)≤f o∧f o≤(n:Int)
theorem Tr.put{j:List (Ow×Int)}{f:Ow→Int}{n:Nat}(h:Tr j f n)(o:Ow){v:Int}(hv:v=f o+1∨v=f o -1):Tr (aX bw o v (aX bw o (aQ bw (.int .i64) o j) j)) (Et f o v) (n+1):=by
 have hk:(bw).keyed=true:=rfl
 refine⟨fun q=>?_,?_,fun q=>?_⟩
 ·unfold Et
  by_cases hq:q=o
  ·subst hq
   rw[aA rfl,dr (kt:=bw) (vt:=.int .i64) hk]
  ·rw[aC hq,dE (kt:=bw) (vt:=.int .i64) hk hq,dE (kt:=bw) (vt:=.int .i64) hk hq,h.get]
 ·have h0:=h.len
  have h1:(aX bw o (aQ bw (.int .i64) o j) j).length≤j.length+1:=du
  have h2:bT bw o (aX bw o (aQ bw (.int .i64) o j) j)=true:=fL hk o _ j
  have h3:(aX bw o v (aX bw o (aQ bw (.int .i64) o j) j)).length=(aX bw o (aQ bw (.int .i64) o j) j).length:=qa h2
  omega
 ·have h0:=h.bd o
  have h1:=h.bd q
  unfold Et
  grind
theorem Hb{R:Type}{t:Ty}{x y:t.den}(h:x=y)(K:Option R):mN t x y K=K:=aA h
section
variable{O N:List In} {l:List Sp}
theorem vC{R:Type}{j:List (Ow×Int)}{f:Ow→Int}{n:Nat}(h:Tr j f n)(hn:n≤100000)(o o':Ow)(ho:o'=o)(v:Int)(K:Option R):
 (if bl bw o' o=true then(if j.length+1≤aH then(if bT bw o (aX bw o (aQ bw (.int .i64) o j) j)=true then(mN (.int .i64) (aQ bw (.int .i64) o' j) (aQ bw (.int .i64) o' (aX bw o (aQ bw (.int .i64) o j) j)) (mN (.int .i64) v v K)) else none) else none) else none)=K:=by
 have hM:aH=140737488355328:=rfl
 have hk:(bw).keyed=true:=rfl
 subst ho
 have hl:=h.len
 rw[aA ((cL _ _ _).2 rfl),aA (by omega),aA (fL hk o' _ j),Hb (by rw[dr (kt:=bw) (vt:=.int .i64) hk]),Hb rfl]
theorem N4(b:Ow→Bool){k:List (Ow×Bool)}(hk:∀o,aQ bw .bool o k=b o)(hl:l.length≤1000):∀(n i:Nat)(j:List (Ow×Int))(f:Ow→Int),l.length -i<n→i≤l.length→Tr j f (2000+i)→
 jP n (l,(l.length:Int),(i:Int),j,k)=some (if kp b f (l.drop i)=true then .brk () else .ret false):=by
 have hM:aH=140737488355328:=rfl
 intro n
 induction n with
 |zero=>grind
 |
  succ n ih=>
  intro i j f hn hi hj
  unfold jP at ih ⊢
  rw[aN]
  generalize aL _ n=rec at ih ⊢
  dsimp only
  by_cases h:i<l.length
  ·have hb:=hj.bd (ow l[i].2)
   have hw:=nE i (by omega)
   rw[cz (by omega),dZ i,aA (by omega),cJ (t:=bC) h,lO h]
   have hg:aQ bw (.int .i64) (l[i].2.1,(l[i].2.2.1,())) j=f (ow l[i].2):=hj.get (ow l[i].2)
   have hO2:((l[i].2.1,(l[i].2.2.1,())):Ow)=ow l[i].2:=rfl
   rw[hO2] at hg ⊢
   have fin:∀v,v=(if l[i].1=1 then f (ow l[i].2)+1 else f (ow l[i].2) -1)→aI (U:=(List Sp)×Int×Int×Ow×(List (Ow×Int))×(List (Ow×Bool))) (some (.brk (l,(l.length:Int),(i:Int),ow l[i].2,aX bw (ow l[i].2) v (aX bw (ow l[i].2) (aQ bw (.int .i64) (ow l[i].2) j) j),k))) (fun⟨d,e,f,a,c,b⟩=>Option.bind (α:=Bool) (if(aQ bw .bool a b)=true then(some (decide ((aQ bw (.int .i64) a c)<(1:Int)))) else(some false)) fun v9=>if v9=true then(bU (some false)) else(rec (d,e,bq (f+(1:Int)),c,b)))=some (if kp b f (l[i]::l.drop (i+1))=true then .brk () else .ret false):=by
    intro v hv
    have hj2:=hj.put (ow l[i].2) (v:=v) (by grind)
    rw[aG]
    dsimp only
    rw[hk,hj2.get,hw]
    have hrec:=ih (i+1) _ _ (by omega) (by omega) hj2
    have hkp:kp b f (l[i]::l.drop (i+1))=if(b (ow l[i].2)&&decide (Et f (ow l[i].2) v (ow l[i].2)<1))=true then false else kp b (Et f (ow l[i].2) v) (l.drop (i+1)):=by
     rw[hv];rfl
    rw[hkp]
    cases hbo:b (ow l[i].2) with
    |
     false=>
     grind
    |
     true=>
     rw[Bool.true_and,aA rfl,aM]
     by_cases hlt:Et f (ow l[i].2) v (ow l[i].2)<1
     ·rw[cD hlt,aA rfl,aA rfl]
      rfl
     grind
   by_cases h1:l[i].1=1
   ·rw[cz h1,vC hj (by omega) _ _ rfl,hg,gZ (by omega) (by omega)]
    grind
   ·rw[aC (by grind),vC hj (by omega) _ _ rfl,hg,gZ (by omega) (by omega)]
    grind
  ·rw[aC (by grind),sZ (by omega)]
   rfl
def Sm(o:Ow)(x:In):Bool:=decide (ow (bP x)=o)
def dD(A:List In)(o:Ow):Int:=((A.filter (Sm o)).length:Int)
theorem rO(x:In)(A:List In)(o:Ow):dD (x::A) o=(if o=ow (bP x) then 1 else 0)+dD A o:=by
 unfold dD Sm
 grind
theorem yq{A B:List In}(h:A.Perm B)(o:Ow):dD A o=dD B o:=by
 unfold dD
 rw[(h.filter _).length_eq]
def both(O N:List In)(o:Ow):Bool:=decide (0<dD O o)&&decide (0<dD N o)
theorem Hc(A:List In)(o:Ow):0≤dD A o:=dU _
theorem N5(A:List In)(o:Ow):dD A o≤(A.length:Int):=by
 grind [dD]
theorem KE(c:List (Ow×Int))(hc:Tr c (dD O) 2000)(hl:l.length≤1000):∀(n:Nat)(es:List (Pl×In))(d:List (Ow×Bool)),es.length<n→d.length+es.length≤2000→(∀e∈es,e.1=bP e.2)→
 (∀o,(aQ bw .bool o d=true∨0<dD O o∧0<dD (es.map (·.2)) o)↔both O N o=true)→
 lv n (l,c,d,es)=some (kp (both O N) (dD O) l):=by
 have hM:aH=140737488355328:=rfl
 intro n
 induction n with
 |zero=>grind
 |
  succ n ih=>
  intro es d hn hd hes hI
  unfold lv at ih ⊢
  rw[aN]
  generalize aL _ n=rec at ih ⊢
  dsimp only
  cases es with
  |
   nil=>
   rw[aA (show List.isEmpty ([]:List (Pl×In))=true from rfl)]
   have hb:∀o,aQ bw .bool o d=both O N o:=fun o=>by
    have:=hI o
    have h0:¬(0<dD (([]:List (Pl×In)).map (·.2)) o):=by
     show¬((0:Int)<0)
     omega
    grind
   have e:=N4 (l:=l) (both O N) hb hl (Int.toNat (l.length:Int)+1) 0 c (dD O) (by omega) (by omega) ⟨hc.get,by have:=hc.len;omega,fun o=>by have:=hc.bd o;omega⟩
   have e:jP (Int.toNat (l.length:Int)+1) (l,(l.length:Int),0,c,d)=_:=e
   rw[e,iQ]
   cases kp (both O N) (dD O) l<;>rfl
  |
   cons e0 l0=>
   rw[aC (by simp)]
   refine nw (by simp) fun i hi=>?_
   have hl2:((e0::l0).eraseIdx i).length=l0.length:=by grind
   have he:=hes _ (fb hi)
   have amz:∀e∈(e0::l0).eraseIdx i,e.1=bP e.2:=fun e h'=>hes e (List.mem_of_mem_eraseIdx h')
   have hpk:((e0::l0).map (·.2)).Perm ((e0::l0)[i].2::((e0::l0).eraseIdx i).map (·.2)):=(gJ (e0::l0) i hi).map (·.2)
   have hI:∀o,(aQ bw .bool o d=true∨0<dD O o∧0<dD ((e0::l0)[i].2::((e0::l0).eraseIdx i).map (·.2)) o)↔both O N o=true:=fun o=>by rw[←yq hpk];grind
   rw[gI] at hn hd
   generalize (e0::l0)[i]=e at he hI
   generalize (e0::l0).eraseIdx i=m at hl2 amz hI
   obtain⟨q,x⟩:=e
   dsimp only at he hI
   subst he
   dsimp only
   rw[Cu,aM,hc.get]
   by_cases hp:0<dD O (ow (bP x))
   ·rw[cz hp,aM,aA (by omega)]
    have hml:(aX bw (ow (bP x)) true d).length≤d.length+1:=du
    refine ih m _ (by omega) (by omega) amz fun o=>?_
    rw[←hI o,rO]
    have h0:=Hc (m.map (·.2)) o
    by_cases ho:o=ow (bP x)
    ·subst ho
     rw[dr (kt:=bw) (vt:=.bool) rfl,aA rfl]
     grind
    ·rw[dE (kt:=bw) (vt:=.bool) rfl ho,aC ho,Int.zero_add]
   ·rw[aC (by grind)]
    refine ih m d (by omega) (by omega) amz fun o=>?_
    rw[←hI o,rO]
    grind
theorem N6(hO:CO O)(hN:CO N)(o:Zf)(hl:l.length≤1000):j5 o (some (O.map pr)) (some (N.map pr)) l=some (kp (both O N) (dD O) l):=by
 have hM:aH=140737488355328:=rfl
 have hOl:=hO.len
 have hNl:=hN.len
 have key:∀(n:Nat)(es:List (Pl×In))(d:List (Ow×Int))(f:Ow→Int)(k:Nat),es.length<n→k+es.length≤2000→(∀e∈es,e.1=bP e.2)→Tr d f k→(∀o,f o+dD (es.map (·.2)) o=dD O o)→(∀o,0≤f o)→
  lz n (o,some (O.map pr),some (N.map pr),l,d,[],es)=some (kp (both O N) (dD O) l):=by
  intro n
  induction n with
  |zero=>grind
  |
   succ n ih=>
   intro es d f k hn hk hes hd hI h0
   unfold lz at ih ⊢
   rw[aN]
   generalize aL _ n=rec at ih ⊢
   dsimp only
   cases es with
   |
    nil=>
    rw[aA (show List.isEmpty ([]:List (Pl×In))=true from rfl)]
    have hf:f=dD O:=funext fun o=>by
     simp_all[dD]
    subst hf
    have e:(N.map pr).map (·.2)=N:=by rw[iq];exact List.map_id' N
    refine KE (N:=N) d ⟨hd.get,by have:=hd.len;omega,fun o=>by have:=Hc O o;have:=N5 O o;omega⟩ hl _ (N.map pr) [] (by simp[aY]) (by grind) (fun e he=>?_) fun o=>?_
    ·obtain⟨x,_,rfl⟩:=List.mem_map.1 he
     rfl
    ·rw[e]
     unfold both
     rw[bj,mq,mq]
     exact⟨fun h=>h.resolve_left (fun h'=>by cases h'),Or.inr⟩
   |
    cons e0 l0=>
    rw[aC (by simp)]
    refine nw (by simp) fun i hi=>?_
    have hl2:((e0::l0).eraseIdx i).length=l0.length:=by grind
    have he:=hes _ (fb hi)
    have amz:∀e∈(e0::l0).eraseIdx i,e.1=bP e.2:=fun e h'=>hes e (List.mem_of_mem_eraseIdx h')
    have hpk:((e0::l0).map (·.2)).Perm ((e0::l0)[i].2::((e0::l0).eraseIdx i).map (·.2)):=(gJ (e0::l0) i hi).map (·.2)
    have hI:∀o,f o+dD ((e0::l0)[i].2::((e0::l0).eraseIdx i).map (·.2)) o=dD O o:=fun o=>by rw[←yq hpk];grind
    rw[gI] at hn hk
    generalize (e0::l0)[i]=e at he hI
    generalize (e0::l0).eraseIdx i=m at hl2 amz hI
    obtain⟨q,x⟩:=e
    dsimp only at he hI
    subst he
    dsimp only
    have hO2:(((bP x).1,((bP x).2.1,())):Ow)=ow (bP x):=rfl
    have hb:=hd.bd (ow (bP x))
    rw[Cu,aM,hO2,vC hd (by omega) _ _ rfl,hd.get,gZ (by omega) (by omega)]
    rw[←hd.get (ow (bP x))]
    have hp:=hd.put (ow (bP x)) (v:=f (ow (bP x))+1) (Or.inl rfl)
    rw[←hd.get (ow (bP x))] at hp
    refine ih m _ _ (k+1) (by omega) (by omega) amz hp (fun o=>?_) fun o=>?_
    ·rw[←hI o,rO]
     unfold Et
     by_cases ho:o=ow (bP x)
     ·rw[aA ho,aA ho,hd.get,ho];omega
     grind
    ·have:=h0 o
     have:=h0 (ow (bP x))
     unfold Et
     rw[hd.get]
     grind
 unfold j5
 refine key _ (O.map pr) [] (fun _=>0) 0 (by simp[aY]) (by grind) (fun e he=>?_) ⟨fun _=>rfl,by simp,fun _=>by omega⟩ (fun q=>?_) fun _=>mr _
 ·grind
 ·have e:(O.map pr).map (·.2)=O:=by rw[iq];exact List.map_id' O
  grind
end
theorem KF{p:Pl}:∀{m:List (Pl×Bool)},(∀e∈m,e.2=true)→(aQ aK .bool p m=true↔p∈m.map (·.1))
 |[],_=>⟨fun h=>(by cases h),fun h=>(by cases h)⟩
 |
  e::m,h=>by
  have ih:=KF (p:=p) fun e he=>h e (dv _ he)
  rw[dy,fa]
  unfold aQ
  by_cases he:bl aK p e.1=true
  ·simp_all[cL]
  simp_all[cL]
section
variable{w:bz} {lo P:Zf} {d k:Int}
def W0(w:bz)(lo:Zf)(d k:Int)(s:Sp):List In:=if Cn true (dM w) s.2.1 s.2.2.1 d=true then((LL w lo 0 (s.2.1,(s.2.2.1,((0:Int),())))).run (Oa w d k)).1.2.2.1 else[]
theorem W1(hs:SA w.1.1)(hT:FT w.1.1)(hf:w.2.1.length≤60)(hcg:CG w.1.1 lo)(hP:P.length≤4){s:Sp}(a0:0≤s.2.1)(a1:s.2.1<(w.1.1.2.2.1.length:Int))(hp:s.2.2.1∈P){ix:List (Ky×List Fa)}(h:∀key,aQ aK (.slice 64 bH) key ix=iO key w.2.1){fo:FM}{se:SM}{rs:List Rd}(hI:MI w.1.1 (sR w P) (Up w P) (Oa w d k) (LL w lo 0) fo se rs):
 ∃b fo' se' rs',BZ s.2.1 s.2.2.1 w (some ix) d k true (dM w) () fo se rs=some (W0 w lo d k s,b,w,some ix,d,k,true,dM w,(),fo',se',rs')∧MI w.1.1 (sR w P) (Up w P) (Oa w d k) (LL w lo 0) fo' se' rs'∧(W0 w lo d k s).length≤3:=by
 unfold BZ
 rw[Co,aM]
 dsimp only
 unfold W0
 cases hi:Cn true (dM w) s.2.1 s.2.2.1 d with
 |
  false=>
  rw[aA (show(!false)=true from rfl),aC (show¬(false=true) by decide)]
  grind
 |
  true=>
  rw[aC (show¬(!true)=true by decide),aA rfl]
  obtain⟨x,ex,fo',se',rfl,h',_,hg⟩:=Km hs hT hf hcg hP s.2.1 s.2.2.1 h d k () (i:=0) a0 a1 (by omega) (by omega) hp fo se rs hI
  rw[ex]
  exact⟨_,fo',se',_,rfl,h',hg.1⟩
def OD(w:bz)(lo:Zf)(d k:Int)(O N:List In)(l:List Sp)(c:Nat):Prop:=∀n,n<c→∀h:n<l.length,l[n].1=1→∀x∈W0 w lo d k l[n],bP x∈(ma N O).map bP→(((1:Int),bP x):Sp)∈l.take n
structure FM'(O N:List In)(m:List (Pl×Bool))(pre:List Sp):Prop where
 nd:(m.map (·.1)).Nodup
 tr:∀e∈m,e.2=true
 mem:∀p,p∈m.map (·.1)↔p∈(ma N O).map bP∧(((1:Int),p):Sp)∉pre
theorem KG(hs:SA w.1.1)(hT:FT w.1.1)(hf:w.2.1.length≤60)(hcg:CG w.1.1 lo)(hP:P.length≤4){O N:List In}(hO:CO O)(hN:CO N){l:List Sp}(hll:l.length≤1000)(hl:∀s∈l,s.1=1→0≤s.2.1∧s.2.1<(w.1.1.2.2.1.length:Int)∧s.2.2.1∈P)(o:Zf){ix:List (Ky×List Fa)}(h:∀key,aQ aK (.slice 64 bH) key ix=iO key w.2.1){fo:FM}{se:SM}{rs:List Rd}(hI:MI w.1.1 (sR w P) (Up w P) (Oa w d k) (LL w lo 0) fo se rs):
 W (sP l (some (O.map pr)) (some (N.map pr)) o w (some ix) d k true (dM w) () fo se rs) fun r=>r.1=true↔OD w lo d k O N l l.length:=by
 have hM:aH=140737488355328:=rfl
 obtain⟨FR,e1,hF⟩:=jx hN hO
 have cF:=(hN.ma O).perm hF
 have hFl:=cF.len
 unfold sP pF
 rw[e1,aM,aM]
 dsimp only
 have e3:sO (Int.toNat (List.length FR:Int)+1) (l,FR,(List.length FR:Int),0,some (O.map pr),some (N.map pr),o,w,some ix,d,k,true,dM w,(),fo,se,rs,([]:List (Pl×Bool)))=some (.brk (l,some (O.map pr),some (N.map pr),o,w,some ix,d,k,true,dM w,(),fo,se,rs,FR.map fun x=>(bP x,true))):=by
  obtain⟨r,e,hr⟩:=cd (L:=sO) rfl (fun r=>r= .brk (l,some (O.map pr),some (N.map pr),o,w,some ix,d,k,true,dM w,(),fo,se,rs,FR.map fun x=>(bP x,true))) FR.length (fun c(s:List (Pl×Bool))=>(l,FR,(FR.length:Int),(c:Int),some (O.map pr),some (N.map pr),o,w,some ix,d,k,true,dM w,(),fo,se,rs,s)) (fun c s=>s=(FR.take c).map fun x=>(bP x,true)) (by
   intro rec c s hc hs kk
   have hsl:s.length≤1000:=by grind
   dsimp only
   rw[cz (by omega),dZ c,aA (by omega),cJ (t:=bp) hc,bh (by omega)]
   show W (Option.bind (some (bP FR[c])) _) _
   rw[aM,aA (by omega)]
   refine kk _ ?_
   have hsn:((FR.take c).map fun x=>(bP x,true)).map (·.1)=(FR.take c).map bP:=by rw[iq];rfl
   rw[gm (kt:=aK) rfl,hs,List.take_succ_eq_append_getElem hc,im]
   ·rfl
   ·rw[hs,hsn]
    intro hm
    have h3:((FR.take (c+1)).map bP).Nodup:=((List.take_sublist (c+1) FR).map bP).nodup cF.nd
    rw[List.take_succ_eq_append_getElem hc,im,kE] at h3
    grind) (by
   intro rec s hs
   dsimp only
   rw[aC (by grind)]
   refine⟨_,rfl,?_⟩<;>grind) (Int.toNat (List.length FR:Int)+1) 0 [] (by omega) (by omega) rfl
  grind
 rw[e3,aG]
 dsimp only
 have hm0:FM' O N (FR.map fun x=>(bP x,true)) []:=by
  have hsn:(FR.map fun x=>(bP x,true)).map (·.1)=FR.map bP:=by simp_all
  refine⟨by rw[hsn];exact cF.nd,fun e he=>?_,fun p=>?_⟩<;>grind
 refine bK.2 (W.ct (cd (L:=zM) rfl (CT (fun _=>OD w lo d k O N l l.length) fun r=>r.1=false∧¬OD w lo d k O N l l.length) l.length (fun c(s:FM×SM×List Rd×List (Pl×Bool))=>(l,(l.length:Int),(c:Int),some (O.map pr),some (N.map pr),o,w,some ix,d,k,true,dM w,(),s.1,s.2.1,s.2.2.2,s.2.2.1)) (fun c s=>MI w.1.1 (sR w P) (Up w P) (Oa w d k) (LL w lo 0) s.1 s.2.1 s.2.2.1∧FM' O N s.2.2.2 (l.take c)∧OD w lo d k O N l c) ?step ?stop _ 0 (fo,se,rs,FR.map fun x=>(bP x,true)) (by omega) (by omega) ⟨hI,by grind,fun n hn=>absurd hn (Nat.not_lt_zero n)⟩) (fun r hr=>⟨_,rfl,fun _=>hr,fun _=>rfl⟩) fun r hr=>⟨fun h'=>(by grind),fun h'=>absurd h' hr.2⟩)
 case step=>
  rintro rec c ⟨fo,se,rs,m⟩ hc ⟨hI,hm,hod⟩ kk
  dsimp only at hI hm ⊢
  have hw2:=nE c (by omega)
  have et:l.take (c+1)=l.take c++[l[c]]:=List.take_succ_eq_append_getElem hc
  rw[cz (by omega),dZ c,aA (show(c:Int)<(l.length:Int) by omega),cJ (t:=bC) hc]
  by_cases h1:l[c].1=1
  ·rw[aC (show¬(!decide (l[c].1=(1:Int)))=true by simp[h1])]
   obtain⟨g1,g2,g3⟩:=hl _ (fb hc) h1
   obtain⟨b,fo',se',rs',eb,hI',hbl⟩:=W1 hs hT hf hcg hP g1 g2 g3 h hI
   rw[eb,aM]
   dsimp only
   generalize hB:W0 w lo d k l[c]=B at hbl
   refine bK.2 (bK.2 (W.ct (cd (L:=xD) rfl (CT (fun r=>r=(l,(l.length:Int),(c:Int),some (O.map pr),some (N.map pr),o,w,some ix,d,k,true,dM w,(),fo',se',l[c],m,rs')∧∀x∈B,¬aQ aK .bool (bP x) m=true) fun r=>∃x,(x.1=false∧¬OD w lo d k O N l l.length)∧r= .ret (.ret x)) B.length (fun i(_:Unit)=>(l,(l.length:Int),(c:Int),B,(B.length:Int),(i:Int),some (O.map pr),some (N.map pr),o,w,some ix,d,k,true,dM w,(),fo',se',l[c],m,rs')) (fun i _=>∀x∈B.take i,¬aQ aK .bool (bP x) m=true) ?s2 ?t2 _ 0 () (by omega) (by omega) (fun x hx=>by cases hx)) (fun r hr=>?_) fun r hr=>?_))
   case s2=>
    intro rec2 i _ hi hx kk2
    dsimp only
    rw[cz (by omega),dZ i,aA (by omega),cJ (t:=bp) hi,bh (by omega)]
    show W (Option.bind (some (bP B[i])) _) _
    rw[aM]
    split
    ·rename_i hg
     rw[KF hm.tr,hm.mem] at hg
     exact⟨_,rfl,_,⟨rfl,fun amO=>hg.2 (amO c hc hc h1 _ (by grind) hg.1)⟩,rfl⟩
    ·rename_i hg
     refine kk2 () fun x hx2=>?_
     rw[List.take_succ_eq_append_getElem hi] at hx2
     grind
   case t2=>
    intro rec2 _ hx
    dsimp only
    rw[aC (by grind)]
    rw[List.take_length] at hx
    exact⟨_,rfl,rfl,hx⟩
   ·obtain⟨rfl,hx⟩:=hr
    refine⟨_,rfl,?_⟩
    rw[iC]
    dsimp only
    rw[hw2]
    have amz:(iU aK l[c].2 m).Sublist m:=nf
    refine kk (fo',se',rs',iU aK l[c].2 m) ⟨hI',⟨(amz.map _).nodup hm.nd,fun e he=>hm.tr e (amz.subset he),fun p=>?_⟩,fun n hn hnl hn1 x hxb hxF=>?_⟩
    ·rw[rM (kt:=aK) rfl hm.nd,hm.mem,et,pY]
     exact⟨fun⟨q1,q2,q3⟩=>⟨q2,fun q4=>q4.elim q3 fun q5=>q1 q5.2.symm⟩,fun⟨q1,q2⟩=>⟨fun q3=>q2 (Or.inr ⟨h1,q3.symm⟩),q1,fun q4=>q2 (Or.inl q4)⟩⟩
    ·by_cases hnc:n<c
     ·exact hod n hnc hnl hn1 x hxb hxF
     ·have:n=c:=by omega
      subst this
      rw[hB] at hxb
      have h5:=hx x hxb
      rw[KF hm.tr,hm.mem] at h5
      grind
   ·obtain⟨x,hx,rfl⟩:=hr
    exact hx
  ·rw[aA (show(!decide (l[c].1=(1:Int)))=true by simp[h1]),aG]
   dsimp only
   rw[hw2]
   refine kk (fo,se,rs,m) ⟨hI,⟨hm.nd,hm.tr,fun p=>?_⟩,fun n hn hnl hn1 x hxb hxF=>?_⟩
   ·rw[hm.mem,et,pY]
    exact and_congr Iff.rfl (not_congr ⟨Or.inl,fun q=>q.resolve_right fun q2=>h1 q2.1⟩)
   ·by_cases hnc:n<c
    ·exact hod n hnc hnl hn1 x hxb hxF
    grind
 case stop=>
  rintro rec ⟨fo,se,rs,m⟩ ⟨_,_,hod⟩
  dsimp only
  rw[aC (by grind)]
  exact⟨_,rfl,hod⟩
theorem yr(hs:SA w.1.1)(hT:FT w.1.1)(hf:w.2.1.length≤60)(hcg:CG w.1.1 lo)(er:f44 w.1=some 0)(hP:P.length≤4)(hn:P.Nodup):CO (CL w lo P d k):=by
 refine⟨Kt hcg hn,?_,fun x hx=>?_⟩
 ·have:=kZ (f:=fun p=>AL w lo p d k) (n:=24) (l:=P) fun p _=>(vr hs hT hf hcg er p d k).1
  unfold CL
  omega
 ·obtain⟨p,_,hx⟩:=List.mem_flatMap.1 hx
  grind [vr]
end
structure CK(w:bz)(P:Zf)(d b a:Int)(l:List Sp):Prop where
 ok:fV w P d b a≠none
 cg:CG w.1.1 w.1.2.1
 er:f44 w.1=some 0
 vp:VP P d
 all:l.Perm (KK (CL w w.1.2.1 P d b) (CL w w.1.2.1 P d a))
 kp:kp (both (CL w w.1.2.1 P d b) (CL w w.1.2.1 P d a)) (dD (CL w w.1.2.1 P d b)) l=true
 od:OD w w.1.2.1 d a (CL w w.1.2.1 P d b) (CL w w.1.2.1 P d a) l l.length
variable{N:List In}
theorem rP{s:Sp}:s∈KK O N↔s.1=2∧s.2∈(ma O N).map bP∨s.1=1∧s.2∈(ma N O).map bP:=by
 unfold KK
 grind
theorem Ts{l:List Sp}(hs:SA w.1.1)(hT:FT w.1.1)(hf:w.2.1.length≤60)(hP:P.length≤4)(hll:l.length≤1000)(d b a:Int):∃r,f11 w P d b a l=some r∧(r=true↔CK w P d b a l):=by
 suffices hW:W (f11 w P d b a l) fun r=>r=true↔CK w P d b a l by
  trivial
 unfold f11 GK GO
 rcases vu hs hT hf hP d b a with h0|⟨e2,hcg,er,o,ix,fo,se,rs,e1,_,hvp,hI,hix⟩
 ·obtain⟨e1,e2⟩:=h0 b a
  rw[e1,e2]
  exact⟨_,rfl,fun h=>(by cases h),fun h=>absurd e1 h.ok⟩
 ·have hO:=yr (d:=d) (k:=b) hs hT hf hcg er hP hvp.jV
  have hN:=yr (d:=d) (k:=a) hs hT hf hcg er hP hvp.jV
  have gy:fV w P d b a≠none:=by grind
  rw[e1,e2,aM,uk hcg hvp.jV,uk hcg hvp.jV]
  dsimp only
  rw[aA rfl]
  obtain⟨r1,c1,h1⟩:=Ct (l:=l) hO hN o hll
  rw[c1,aM]
  cases r1 with
  |
   false=>
   rw[aC (show¬(false=true) by decide)]
   exact⟨_,rfl,fun h=>(by cases h),fun h=>absurd (h1.2 h.all) (by decide)⟩
  |
   true=>
   have amO:=h1.1 rfl
   rw[aA rfl,N6 hO hN o hll,aM]
   by_cases hk:kp (both (CL w w.1.2.1 P d b) (CL w w.1.2.1 P d a)) (dD (CL w w.1.2.1 P d b)) l=true
   ·rw[aA hk]
    obtain⟨r,e3,h3⟩:=KG (o:=o) hs hT hf hcg hP hO hN hll (fun s hsl hs1=>by
     rcases rP.1 (amO.mem_iff.1 hsl) with⟨q1,_⟩|⟨_,q2⟩
     ·omega
     ·obtain⟨x,hx,ex⟩:=List.mem_map.1 q2
      obtain⟨g1,g2,g3,_⟩:=Sj hcg x (gN.1 hx).1
      rw[←ex]
      trivial) hix hI
    rw[e3,aM]
    exact⟨_,rfl,fun hr=>⟨gy,hcg,er,hvp,amO,hk,h3.1 hr⟩,fun h=>h3.2 h.od⟩
   ·rw[aC hk]
    exact⟨_,rfl,fun h=>(by cases h),fun h=>absurd h.kp hk⟩
def XV(O N:List In)(l:List Sp):List In:=(O.filter fun x=> !(decide (((2:Int),bP x)∈l)&& !decide (x∈N)))++(ma N O).filter fun x=>decide (((1:Int),bP x)∈l)
def mn(O N:List In)(k:Ik):In:=if k.2.1=true then aQ aK bp k.1 (N.map pr) else aQ aK bp k.1 (O.map pr)
theorem Tt(hA:(A.map bP).Nodup)(hs:∀x∈B,x∈A){x:In}(hx:x∈A):bP x∈B.map bP↔x∈B:=
 ⟨fun h=>by
  grind [Sk],fun h=>List.mem_map.2 ⟨x,h,rfl⟩⟩
theorem N7{ST:List In}(hO:CO O)(hN:CO N)(hS:ST.Perm (ma O N))(hF:FR.Perm (ma N O))(l:List Sp):((VK O ST FR l).map (mn O N)).Perm (XV O N l):=by
 unfold VK XV
 rw[im,iq,iq]
 refine List.Perm.append ?_ ?_
 ·have e1:(O.filter (sS ST l)).map (mn O N∘fun x=>((bP x,(false,())):Ik))=O.filter (sS ST l):=by
   refine(List.map_congr_left fun x hx=>?_).trans (List.map_id' _)
   exact zZ hO.nd (List.mem_filter.1 hx).1
  have e2:O.filter (sS ST l)=O.filter fun x=> !(decide (((2:Int),bP x)∈l)&& !decide (x∈N)):=by
   refine List.filter_congr fun x hx=>?_
   unfold sS
   have h1:bP x∈ST.map bP↔¬x∈N:=by
    rw[Tt hO.nd (fun y hy=>(gN.1 (hS.mem_iff.1 hy)).1) hx,hS.mem_iff,gN]
    grind
   simp_all
  grind
 ·have e1:(FR.filter fun x=>decide (((1:Int),bP x)∈l)).map (mn O N∘fun x=>((bP x,(true,())):Ik))=FR.filter fun x=>decide (((1:Int),bP x)∈l):=by
   refine(List.map_congr_left fun x hx=>?_).trans (List.map_id' _)
   exact zZ hN.nd (gN.1 (hF.mem_iff.1 (List.mem_filter.1 hx).1)).1
  grind
theorem Tu{ST:List In}:VK O ST FR []=O.map fun x=>((bP x,(false,())):Ik):=by
 grind [VK,List.filter_eq_self,rN,List.filter_eq_nil_iff]
theorem ab1{l:List Sp}(hs:SA w.1.1)(hT:FT w.1.1)(hf:w.2.1.length≤60)(hP:P.length≤4)(hll:l.length≤1000){d b a:Int}(gy:fV w P d b a≠none):∃X,f13 w P d b a l=some X∧X.Perm (XV (CL w w.1.2.1 P d b) (CL w w.1.2.1 P d a) l):=by
 have hM:aH=140737488355328:=rfl
 rcases vu hs hT hf hP d b a with h0|⟨_,hcg,er,o,ix,fo,se,rs,e1,_,hvp,_,_⟩
 ·grind
 have hO:=yr (d:=d) (k:=b) hs hT hf hcg er hP hvp.jV
 have hN:=yr (d:=d) (k:=a) hs hT hf hcg er hP hvp.jV
 generalize hOe:CL w w.1.2.1 P d b=O at hO
 generalize hNe:CL w w.1.2.1 P d a=N at hN
 obtain⟨ST,es,hS⟩:=jx hO hN
 obtain⟨FR,ef,hF⟩:=jx hN hO
 have cS:=(hO.ma N).perm hS
 have cF:=(hN.ma O).perm hF
 have hvl:=Er (ST:=ST) hO cF l
 obtain⟨ys,hys,hsort⟩:=Es (A:=VK O ST FR l) (G8 hO cF l)
 have hyl:=hys.length_eq
 refine⟨ys.map (mn O N),?_,(hys.map _).trans (N7 hO hN hS hF l)⟩
 suffices hW:oi w P d b a l=some (ys.map (mn O N)) by
  unfold f13
  rw[hW]
  rfl
 unfold oi
 rw[e1,aM,uk hcg hvp.jV,uk hcg hvp.jV,hOe,hNe]
 dsimp only
 rw[aC (by decide)]
 unfold pI pF
 rw[es,aM,aM]
 dsimp only
 rw[ef,aM,aM]
 dsimp only
 rw[Kx cS cF,aM]
 have efill:=KB hO cS cF hll (List.length (aY (some (O.map pr)))+1) (O.map pr) [] (by simp[aY]) (by
  rw[iq,Tu]
  trivial)
 have efill:Ve l (some (rL ST FR)) (List.length (aY (some (O.map pr)))+1) [] (aY (some (O.map pr))) []=_:=efill
 rw[efill,aM]
 refine vz (dN _) fun q hq=>?_
 rw[hsort q (hq.trans G9),aM]
 obtain⟨r,e,hr⟩:=cd (L:=lM) rfl (fun r=>r= .brk (ys.map (mn O N))) ys.length (fun c(s:List In)=>((ys.length:Int),(c:Int),o,w,some ix,d,a,true,dM w,(),some (O.map pr),some (N.map pr),rs,fo,se,ys,s)) (fun c s=>s=(ys.take c).map (mn O N)) (by
  intro rec c s hc hs kk
  have hsl:s.length≤2000:=by grind
  dsimp only
  rw[cz (by omega),dZ c,aA (by omega),cJ (t:=dG) hc,bh (by omega)]
  have et:(ys.take (c+1)).map (mn O N)=s++[mn O N ys[c]]:=by grind [List.take_succ_eq_append_getElem]
  split
  ·rename_i hfr
   rw[aA (by grind)]
   refine kk _ ?_
   rw[et]
   unfold mn
   rw[aA hfr]
   rfl
  ·rename_i hfr
   rw[aA (by grind)]
   refine kk _ ?_
   rw[et]
   unfold mn
   rw[aC hfr]
   rfl) (by
  intro rec s hs
  dsimp only
  rw[aC (by grind)]
  refine⟨_,rfl,?_⟩<;>grind) (Int.toNat (ys.length:Int)+1) 0 [] (by omega) (by omega) rfl
 subst hr
 have e:lM (Int.toNat (ys.length:Int)+1) ((ys.length:Int),0,o,w,some ix,d,a,true,dM w,(),some (O.map pr),some (N.map pr),rs,fo,se,ys,([]:List In))=_:=e
 rw[e,aG]
theorem yu(p:α→Bool):∀l:List α,l.length=(l.filter p).length+(l.filter fun x=> !p x).length
 |[]=>rfl
 |
  x::l=>by
  have:=yu p l
  grind
def nI(l:List Sp)(o:Ow):Int:=((l.filter fun s=>decide (s.1=1)&&decide (ow s.2=o)).length:Int)
def nS(l:List Sp)(o:Ow):Int:=((l.filter fun s=> !decide (s.1=1)&&decide (ow s.2=o)).length:Int)
theorem KH{b:Ow→Bool}:∀{l:List Sp}{f:Ow→Int},kp b f l=true→(∀o,b o=true→1≤f o)→∀(n:Nat)(o:Ow),b o=true→1≤f o+nI (l.take n) o -nS (l.take n) o
 |
  _,f,_,hf,0,o,ho=>by
  have:=hf o ho
  rw[List.take_zero]
  show 1≤f o+0 -0
  omega
 |
  [],f,_,hf,n+1,o,ho=>by
  have:=hf o ho
  show 1≤f o+0 -0
  omega
 |
  s::l,f,h,hf,n+1,o,ho=>by
  obtain⟨v,hv⟩:∃v,v=(if s.1=1 then f (ow s.2)+1 else f (ow s.2) -1):=⟨_,rfl⟩
  have h:(if(b (ow s.2)&&decide (Et f (ow s.2) v (ow s.2)<1))=true then false else kp b (Et f (ow s.2) v) l)=true:=by rw[hv];exact h
  by_cases hb:(b (ow s.2)&&decide (Et f (ow s.2) v (ow s.2)<1))=true
  ·grind
  ·rw[aC hb] at h
   simp only[bj,mq,not_and,Int.not_lt] at hb
   have ih:=KH h (fun q hq=>by
    by_cases e:q=ow s.2
    ·grind
    simp_all[Et]) n o ho
   unfold Et at ih
   rw[List.take_succ_cons]
   unfold nI nS at ih ⊢
   grind
theorem KJ(A B:List In)(o:Ow):dD (A++B) o=dD A o+dD B o:=by
 grind [dD]
section
variable{O N:List In} {l:List Sp}
theorem KL{A:List In}(hA:(A.map bP).Nodup)(hl:l.Nodup)(k:Int)(q:Sp→Bool)(hq:∀s∈l,q s=true↔s.1=k)(hs:∀s∈l,s.1=k→s.2∈A.map bP)(hA2:∀x∈A,((k,bP x):Sp)∈l)(o:Ow):
 ((l.filter fun s=>q s&&decide (ow s.2=o)).length:Int)=dD A o:=by
 have hp:(l.filter fun s=>q s&&decide (ow s.2=o)).Perm ((A.filter (Sm o)).map fun x=>((k,bP x):Sp)):=by
  refine(List.perm_ext_iff_of_nodup (List.Pairwise.filter _ hl) ?_).2 fun s=>?_
  ·grind
  ·rw[List.mem_filter,qb,bj,mq]
   constructor
   ·grind [Sm]
   ·rintro⟨x,hx,rfl⟩
    obtain⟨hx,ho⟩:=List.mem_filter.1 hx
    exact⟨hA2 x hx,(hq _ (hA2 x hx)).2 rfl,sW ho⟩
 unfold dD
 rw[hp.length_eq,sX]
theorem Tv(hO:CO O)(hN:CO N)(hl:l.Nodup)(hK:∀s∈l,s∈KK O N)(o:Ow):dD (XV O N l) o=dD O o+nI l o -nS l o:=by
 have h1:nI l o=dD ((ma N O).filter fun x=>decide (((1:Int),bP x)∈l)) o:=by
  refine KL ((List.filter_sublist.map bP).nodup (hN.ma O).nd) hl 1 _ (fun s _=>decide_eq_true_iff) (fun s hs h=>?_) (fun x hx=>sW (List.mem_filter.1 hx).2) o
  rcases rP.1 (hK s hs) with⟨h2,_⟩|⟨_,h2⟩<;>grind
 have h2:nS l o=dD (O.filter fun x=> !!(decide (((2:Int),bP x)∈l)&& !decide (x∈N))) o:=by
  refine KL ((List.filter_sublist.map bP).nodup hO.nd) hl 2 _ (fun s hs=>?_) (fun s hs h=>?_) (fun x hx=>?_) o
  ·grind [rP]
  ·grind [rP,gN]
  grind
 have h3:=yu (fun x=> !(decide (((2:Int),bP x)∈l)&& !decide (x∈N))) (O.filter (Sm o))
 have h4:dD O o=dD (O.filter fun x=> !(decide (((2:Int),bP x)∈l)&& !decide (x∈N))) o+dD (O.filter fun x=> !!(decide (((2:Int),bP x)∈l)&& !decide (x∈N))) o:=by
  unfold dD
  rw[List.filter_filter,List.filter_filter] at h3
  rw[List.filter_filter,List.filter_filter]
  simp only[Bool.and_comm (Sm o _)]
  omega
 grind [XV,KJ]
theorem Tw:XV O N []=O:=by
 grind [XV,List.filter_eq_self,List.filter_eq_nil_iff]
theorem Tx{x:In}(h:x∈XV O N l):x∈O∨x∈N:=by
 grind [XV,gN]
theorem Tz(hO:CO O)(hN:CO N)(hK:l.Perm (KK O N)):(XV O N l).Perm N:=by
 have k1:∀x∈ma N O,((1:Int),bP x)∈l:=fun x hx=>hK.mem_iff.2 (rP.2 (Or.inr ⟨rfl,List.mem_map.2 ⟨x,hx,rfl⟩⟩))
 have k2:∀x∈O,x∉N→((2:Int),bP x)∈l:=fun x hx hn=>hK.mem_iff.2 (rP.2 (Or.inl ⟨rfl,List.mem_map.2 ⟨x,gN.2 ⟨hx,hn⟩,rfl⟩⟩))
 refine(List.perm_ext_iff_of_nodup ?_ (Kv hN.nd)).2 fun x=>?_
 ·unfold XV
  rw[kE]
  refine⟨List.Pairwise.filter _ (Kv hO.nd),List.Pairwise.filter _ (Kv (hN.ma O).nd),fun x hx y hy e=>?_⟩
  grind [gN]
 ·unfold XV
  rw[iW,List.mem_filter,List.mem_filter]
  constructor
  ·rintro(⟨h1,h2⟩|⟨h1,_⟩)
   ·grind
   ·exact(gN.1 h1).1
  grind [gN]
end
theorem TA(x y:In)(hx:x.2.2.2.1.length≤1000):f42 x y=some (decide (x=y)):=by
 have hM:aH=140737488355328:=rfl
 have e65:f65 x y=some (decide (bP x=bP y)):=by
  unfold f65
  by_cases h1:x.1=y.1
  ·rw[cz h1]
   by_cases h2:x.2.1=y.2.1
   ·rw[cz h2,aM]
    refine congrArg some (decide_eq_decide.2 ⟨fun h=>Tm h1 h2 h,fun h=>?_⟩)
    exact(Prod.mk.inj (Prod.mk.inj (Prod.mk.inj h).2).2).1
   ·rw[aC (by grind),aM,dp (show¬bP x=bP y from fun h=>h2 (Prod.mk.inj (Prod.mk.inj h).2).1)]
  ·rw[aC (by grind),aM,dp (show¬bP x=bP y from fun h=>h1 (Prod.mk.inj h).1)]
 unfold f42
 rw[e65,aM]
 by_cases hp:bP x=bP y
 ·rw[cD hp,aC (show¬(!true)=true by decide),aM]
  by_cases hl:x.2.2.2.1.length=y.2.2.2.1.length
  ·rw[aC (show¬(!decide ((x.2.2.2.1.length:Int)=(y.2.2.2.1.length:Int)))=true by simp[hl]),aG]
   dsimp only
   have key:=tF (L:=M9) rfl x.2.2.2.1.length (fun i=>((i:Int),x,y)) () (fun i=>nth (.int .i64) x.2.2.2.1 (i:Int)=nth (.int .i64) y.2.2.2.1 (i:Int)) (fun r:Bool=>r=false∧x≠y) (by
    intro rec i hi
    dsimp only
    rw[cz (by omega),dZ i,aA (by omega),dZ i,aA (by omega),bh (by omega)]
    by_cases he:nth (.int .i64) x.2.2.2.1 (i:Int)=nth (.int .i64) y.2.2.2.1 (i:Int)
    ·grind
    ·rw[aA (by simp[he])]
     exact Or.inr ⟨false,⟨rfl,fun e=>he (by rw[e])⟩,rfl⟩) (by
    grind) iw (sm (by omega))
   grind [Ku,List.ext_getElem,cJ,aG,di]
  ·rw[aA (show(!decide ((x.2.2.2.1.length:Int)=(y.2.2.2.1.length:Int)))=true by grind),dp fun e=>hl (by rw[e])]
   rfl
 ·rw[dp hp,aA (show(!false)=true by rfl),aM,aA rfl,dp fun e=>hp (by rw[e])]
  rfl
def Fw(A:List In):Prop:=A.length≤4000∧∀x∈A,x.2.2.2.1.length≤1000
theorem CO.fw(h:CO A):Fw A:=⟨by have:=h.len;omega,h.xI⟩
theorem Eu(hA:Fw A)(x:In):f14 A x=some (decide (x∈A)):=by
 have hM:aH=140737488355328:=rfl
 have hl:=hA.1
 have key:=tF (L:=GR) rfl A.length (fun i=>(A,(i:Int),x)) () (fun i=>nth bp A (i:Int)≠x) (fun r:Bool=>r=true∧x∈A) (by
  intro rec i hi
  have hm:=fb hi
  dsimp only
  rw[cz (by omega),dZ i,aA (by omega),cJ (t:=bp) hi,TA _ x (hA.2 _ hm),aM,bh (by omega)]
  by_cases he:A[i]=x
  ·rw[cz he]
   exact Or.inr ⟨true,⟨rfl,he▸hm⟩,rfl⟩
  grind) (by
  grind) iw (sm (by omega))
 unfold f14
 rcases key with⟨h1,h2⟩|⟨r,⟨h1,h1'⟩,h2⟩
 ·have h2:GR iw (A,0,x)=_:=h2
  rw[h2,aG,dp]
  intro hx
  obtain⟨i,hi,e⟩:=jz hx
  simp_all[cJ]
 grind [di]
theorem Cv(hA:Fw A)(s p:Int):f32 A s p=some (decide (∃x∈A,x.1=s∧x.2.1=p)):=by
 have hM:aH=140737488355328:=rfl
 have hl:=hA.1
 have key:=tF (L:=GQ) rfl A.length (fun i=>(A,s,p,(i:Int))) () (fun i=>¬((nth bp A (i:Int)).1=s∧(nth bp A (i:Int)).2.1=p)) (fun r:Bool=>r=true∧∃x∈A,x.1=s∧x.2.1=p) (by
  intro rec i hi
  have hm:=fb hi
  dsimp only
  rw[cz (by omega),dZ i,aA (show(i:Int)<(A.length:Int) by omega),cJ (t:=bp) hi,bh (by omega)]
  by_cases h1:A[i].1=s
  ·rw[cz h1,dZ i,aA (show(i:Int)<(A.length:Int) by omega),aM]
   by_cases h2:A[i].2.1=p
   ·rw[cz h2]
    exact Or.inr ⟨true,⟨rfl,A[i],hm,h1,h2⟩,rfl⟩
   grind
  grind) (by
  grind) iw (sm (by omega))
 unfold f32
 rcases key with⟨h1,h2⟩|⟨r,⟨h1,h1'⟩,h2⟩
 ·have h2:GQ iw (A,s,p,0)=_:=h2
  rw[h2,aG,dp]
  rintro⟨x,hx,e⟩
  obtain⟨i,hi,ei⟩:=jz hx
  have:=h1 i hi
  simp_all[cJ]
 grind [di]
theorem Cw(hA:Fw A)(hB:Fw B)(h:A.Perm B):f33 A B=some true:=by
 have hM:aH=140737488355328:=rfl
 have hl:=hA.1
 have hlen:=h.length_eq
 have key:=tF (L:=Ny) rfl A.length (fun i=>(B,A,(A.length:Int),(i:Int))) () (fun _=>True) (fun _:Bool=>False) (by
  intro rec i hi
  have hm:=h.mem_iff.1 (fb hi)
  dsimp only
  rw[cz (by omega),dZ i,aA (by omega),cJ (t:=bp) hi,Eu hB,aM,bh (by omega),cD hm,aC (by decide)]
  grind) (by
  grind) (Int.toNat (List.length A:Int)+1) (by omega)
 simp_all[f33,aG]
section
variable{w:bz} {P:Zf} {l:List Sp} {d b a:Int}
theorem Cy(hs:SA w.1.1)(hT:FT w.1.1)(hf:w.2.1.length≤60)(hcg:CG w.1.1 w.1.2.1)(er:f44 w.1=some 0)(hP:P.length≤4)(d k:Int):f31 w P d k=some (CL w w.1.2.1 P d k):=by
 have hM:aH=140737488355328:=rfl
 obtain⟨r,e,hr⟩:=cd (L:=Nx) rfl (fun r=>r= .brk (CL w w.1.2.1 P d k)) P.length (fun c(s:List In)=>(d,k,P,(P.length:Int),(c:Int),w,s)) (fun c s=>s=CL w w.1.2.1 (P.take c) d k∧s.length≤24*c) (by
  rintro rec c s hc ⟨hs2,hsl⟩ kk
  obtain⟨a1,_,_,_⟩:=Se hs hT hf er (fun _=>hcg) P[c] d k
  obtain⟨g1,_⟩:=vr hs hT hf hcg er P[c] d k
  have g1:((AQ w w.1.2.1 0 P[c] d).run (Oa w d k)).1.length≤24:=g1
  dsimp only
  rw[cz (by omega),dZ c,aA (by omega),cJ (t:=.int .i64) hc,a1,aM]
  dsimp only
  rw[aA (by omega),bh (by omega)]
  refine kk _ ⟨?_,by grind⟩
  unfold CL at hs2 ⊢
  rw[List.take_succ_eq_append_getElem hc,List.flatMap_append,hs2]
  simp only[List.flatMap_cons,List.flatMap_nil,fH]
  rfl) (by
  rintro rec s ⟨hs2,_⟩
  dsimp only
  rw[aC (by grind)]
  rw[List.take_length] at hs2
  exact⟨_,rfl,by rw[hs2]⟩) (Int.toNat (List.length P:Int)+1) 0 [] (by omega) (by omega) ⟨rfl,by simp⟩
 simp_all[f31,aG]
theorem N8(hck:CK w P d b a l)(hO:CO (CL w w.1.2.1 P d b))(hN:CO (CL w w.1.2.1 P d a))(n:Nat){c:In}(hc:c∈CL w w.1.2.1 P d b)(hh:∃x∈CL w w.1.2.1 P d a,x.1=c.1∧x.2.1=c.2.1){X:List In}(hX:X.Perm (XV (CL w w.1.2.1 P d b) (CL w w.1.2.1 P d a) (l.take n))):∃x∈X,x.1=c.1∧x.2.1=c.2.1:=by
 have hlnd:l.Nodup:=hck.all.nodup_iff.2 (by
  rw[KK,kE]
  refine⟨um (hO.ma _).nd,um (hN.ma _).nd,fun x hx y hy e=>?_⟩<;>grind)
 have pos:∀{A:List In}{x:In},x∈A→1≤dD A (ow (bP x)):=fun{A x} hx=>by
  have:0<(A.filter (Sm (ow (bP x)))).length:=List.length_pos_of_mem (List.mem_filter.2 ⟨hx,cD rfl⟩)
  unfold dD
  omega
 have fnd:∀{A:List In}{o:Ow},1≤dD A o→∃x∈A,ow (bP x)=o:=fun{A o} h=>by
  unfold dD at h
  obtain⟨x,hx⟩:=List.exists_mem_of_length_pos (l:=A.filter (Sm o)) (by omega)
  exact⟨x,(List.mem_filter.1 hx).1,sW (List.mem_filter.1 hx).2⟩
 obtain⟨y,hy,ey⟩:=hh
 have eow:ow (bP y)=ow (bP c):=by
  show((y.1,(y.2.1,())):Ow)=(c.1,(c.2.1,()))
  grind
 have hbo:both (CL w w.1.2.1 P d b) (CL w w.1.2.1 P d a) (ow (bP c))=true:=by
  have h1:=pos hc
  have h2:=pos hy
  rw[eow] at h2
  unfold both
  grind
 have hf:=KH hck.kp (fun o ho=>by
  unfold both at ho
  grind) n _ hbo
 have hx:=Tv (l:=l.take n) hO hN ((List.take_sublist n l).nodup hlnd) (fun s hs=>hck.all.mem_iff.1 (List.mem_of_mem_take hs)) (ow (bP c))
 rw[←hx] at hf
 obtain⟨x,hx,ex⟩:=fnd hf
 have ex:((x.1,(x.2.1,())):Ow)=(c.1,(c.2.1,())):=ex
 grind
theorem Ev(hs:SA w.1.1)(hT:FT w.1.1)(hf:w.2.1.length≤60)(hP:P.length≤4)(hll:l.length≤1000)(hck:CK w P d b a l)(hO:CO (CL w w.1.2.1 P d b))(hN:CO (CL w w.1.2.1 P d a)):
 B4 (Int.toNat (bq ((l.length:Int)+(1:Int)))+1) (P,d,b,a,l,CL w w.1.2.1 P d b,CL w w.1.2.1 P d a,bq ((l.length:Int)+(1:Int)),0,w)=some (.brk ()):=by
 have hM:aH=140737488355328:=rfl
 have hw:bq ((l.length:Int)+(1:Int))=((l.length+1:Nat):Int):=bh (by omega)
 rw[hw]
 have val:=fun(n:Nat)=>ab1 (l:=l.take n) hs hT hf hP (by grind) hck.ok
 have kin:=fun(n:Nat)(c:In) hc hh(X:List In) hX=>N8 hck hO hN n (c:=c) hc hh (X:=X) hX
 have amO:=hck.all
 clear hck
 generalize CL w w.1.2.1 P d b=O at hO val kin amO ⊢
 generalize CL w w.1.2.1 P d a=N at hN val kin amO ⊢
 have hOl:=hO.len
 have hNl:=hN.len
 suffices hW:W (B4 (Int.toNat ((l.length+1:Nat):Int)+1) (P,d,b,a,l,O,N,((l.length+1:Nat):Int),0,w)) fun r=>r= .brk () by
  obtain⟨r,e,hr⟩:=hW
  grind
 refine cd (L:=B4) rfl _ (l.length+1) (fun c(_:Unit)=>(P,d,b,a,l,O,N,((l.length+1:Nat):Int),(c:Int),w)) (fun _ _=>True) ?step ?stop _ 0 () (by omega) (by omega) trivial
 case step=>
  intro rec c _ hc _ kk
  dsimp only
  obtain⟨X,eX,hX⟩:=val c
  have hXl:X.length≤4000:=by
   have h1:=hX.length_eq
   grind [XV,ma]
  have hXsub:∀x∈X,x∈O∨x∈N:=fun x hx=>Tx (hX.mem_iff.1 hx)
  have fX:Fw X:=⟨hXl,fun x hx=>(hXsub x hx).elim (hO.xI x) (hN.xI x)⟩
  rw[cz (by omega),dZ c,aA (by omega)]
  have ecut:nQ l 0 (Int.toNat (c:Int))=l.take c:=rfl
  rw[ecut,eX,aM]
  have e9:GS (Int.toNat (List.length O:Int)+1) (P,d,b,a,l,O,N,(c:Int),X,((l.length+1:Nat):Int),(c:Int),O,(List.length O:Int),0,w)=some (.brk (P,d,b,a,l,O,N,(c:Int),X,((l.length+1:Nat):Int),(c:Int),w)):=by
   rcases tF (L:=GS) rfl O.length (fun i=>(P,d,b,a,l,O,N,(c:Int),X,((l.length+1:Nat):Int),(c:Int),O,(List.length O:Int),(i:Int),w)) (P,d,b,a,l,O,N,(c:Int),X,((l.length+1:Nat):Int),(c:Int),w) (fun _=>True) (fun _=>False) (by
    intro rec i hi
    have hm:=fb hi
    dsimp only
    rw[cz (by omega),dZ i,aA (by omega),cJ (t:=bp) hi,Cv hN.fw,aM,bh (by omega)]
    refine Or.inl ⟨trivial,?_⟩
    by_cases hh:∃x∈N,x.1=O[i].1∧x.2.1=O[i].2.1
    ·rw[cD hh,aA rfl,Cv fX,aM,cD (kin c _ hm hh X hX),aM,aC (by decide)]
    grind) (by
    grind) (Int.toNat (List.length O:Int)+1) (by omega) with⟨_,h2⟩|⟨r,h1,_⟩
   ·exact h2
   grind
  rw[e9,aG]
  dsimp only
  have e15:B3 (Int.toNat (List.length X:Int)+1) (P,d,b,a,l,O,N,(c:Int),X,((l.length+1:Nat):Int),(c:Int),X,(List.length X:Int),0,w)=some (.brk (P,d,b,a,l,O,N,(c:Int),X,((l.length+1:Nat):Int),(c:Int),w)):=by
   rcases tF (L:=B3) rfl X.length (fun i=>(P,d,b,a,l,O,N,(c:Int),X,((l.length+1:Nat):Int),(c:Int),X,(List.length X:Int),(i:Int),w)) (P,d,b,a,l,O,N,(c:Int),X,((l.length+1:Nat):Int),(c:Int),w) (fun _=>True) (fun _=>False) (by
    intro rec i hi
    have hm:=hXsub _ (fb hi)
    dsimp only
    rw[cz (by omega),dZ i,aA (by omega),cJ (t:=bp) hi,Eu hO.fw,aM,bh (by omega)]
    refine Or.inl ⟨trivial,?_⟩
    by_cases ho:X[i]∈O
    ·grind
    ·rw[dp ho,aA (by decide),Eu hN.fw,aM,cD (hm.resolve_left ho),aM,aC (by decide)]) (by
    grind) (Int.toNat (List.length X:Int)+1) (by omega) with⟨_,h2⟩|⟨r,h1,_⟩
   ·exact h2
   grind
  rw[e15,aG]
  dsimp only
  have e0:(c:Int)=0→f33 X O=some true:=fun h=>by
   have h:c=0:=by omega
   rw[h,List.take_zero,Tw] at hX
   exact Cw fX hO.fw hX
  have e1:(c:Int)=(l.length:Int)→f33 X N=some true:=fun h=>by
   have h:c=l.length:=by omega
   rw[h,List.take_length] at hX
   exact Cw fX hN.fw (hX.trans (Tz hO hN amO))
  have hlast:(if decide ((c:Int)=(l.length:Int)) then((f33 X N).bind fun y25=>some (!y25)) else(some false))=some false:=by
   grind
  have hcond:(if decide ((c:Int)=(0:Int)) then((f33 X O).bind fun y24=>if !y24 then(some true) else(if decide ((c:Int)=(l.length:Int)) then((f33 X N).bind fun y25=>some (!y25)) else(some false))) else(if decide ((c:Int)=(l.length:Int)) then((f33 X N).bind fun y26=>some (!y26)) else(some false)))=some false:=by
   grind
  rw[hcond,aM,aC (by decide),aG]
  dsimp only
  rw[bh (by omega)]
  exact kk () trivial
 case stop=>
  intro rec _ _
  dsimp only
  rw[aC (by grind)]
  exact⟨_,rfl,rfl⟩
theorem KM(hs:SA w.1.1)(hT:FT w.1.1)(hf:w.2.1.length≤60)(hP:P.length≤4)(hll:l.length≤1000)(hck:CK w P d b a l)(he:f11 w P d b a l=some true)(m:Bool):f10 w P d b a l m=some true:=by
 have hO:=yr (d:=d) (k:=b) hs hT hf hck.cg hck.er hP hck.vp.jV
 have hN:=yr (d:=d) (k:=a) hs hT hf hck.cg hck.er hP hck.vp.jV
 unfold f10
 rw[he,aM,aC (by decide),Cy hs hT hf hck.cg hck.er hP,aM,Cy hs hT hf hck.cg hck.er hP,aM,Ev hs hT hf hP hll hck hO hN,aG]
theorem KN(hs:SS w.1.1)(P:Zf)(l:List Sp):∃r,f8 w P l=some r∧(r=true→FT w.1.1∧w.2.1.length≤60∧P.length≤4∧l.length≤30):=by
 obtain⟨r,e,hr⟩:=NV w hs
 unfold f8
 grind
end
theorem W2{s:cp}(h:wf iJ s):SA s where
 ss:=
  {oo:=h.1.2.1
   nr:=h.2.1.2.1
   dj:=h.2.2.1.2.1
   rules:=h.2.2.2.1.2.1
   iV:=h.2.2.2.2.1.2.1
   fh:=h.2.2.2.2.2.1.2.1
   fields:=fun x hx=>⟨(h.2.2.1.2.2 x hx).2.2.2.2.1.2.1,fun f hf=>((h.2.2.1.2.2 x hx).2.2.2.2.1.2.2 f hf).2.1.2.2.2.2.2.1.2.1⟩
   BT:=fun x hx=>⟨(h.2.2.1.2.2 x hx).2.2.2.2.2.1.2.1,fun d hd=>⟨((h.2.2.1.2.2 x hx).2.2.2.2.2.1.2.2 d hd).1.2.1,((h.2.2.1.2.2 x hx).2.2.2.2.2.1.2.2 d hd).2.2.1.2.1⟩⟩
   rl:=fun r hr=>⟨(h.2.2.2.1.2.2 r hr).2.2.1.2.1,(h.2.2.2.1.2.2 r hr).2.2.2.1.2.1,(h.2.2.2.1.2.2 r hr).2.2.2.2.1.2.1⟩
   mv:=fun c hc=>(h.2.2.2.2.1.2.2 c hc).2.2.2.2.1.2.1
   may:=fun p hp=>(h.2.2.2.2.2.1.2.2 p hp).2.1.2.1}
 bs:=
  {oo:=h.1.1
   nr:=h.2.1.1
   dj:=h.2.2.1.1
   rules:=h.2.2.2.1.1
   iV:=h.2.2.2.2.1.1
   fh:=h.2.2.2.2.2.1.1
   sch:=fun x hx=>⟨(h.2.2.1.2.2 x hx).2.2.2.2.1.1,(h.2.2.1.2.2 x hx).2.2.2.2.2.1.1,fun d hd=>((h.2.2.1.2.2 x hx).2.2.2.2.2.1.2.2 d hd).1.1⟩
   rl:=fun r hr=>⟨(h.2.2.2.1.2.2 r hr).2.2.1.1,(h.2.2.2.1.2.2 r hr).2.2.2.1.1,(h.2.2.2.1.2.2 r hr).2.2.2.2.1.1⟩
   cv:=fun c hc=>(h.2.2.2.2.1.2.2 c hc).2.2.2.2.1.1
   pu:=fun p hp=>(h.2.2.2.2.2.1.2.2 p hp).2.1.1}
 sw:=
  {nr:=h.2.1.2.1
   dj:=h.2.2.1.2.1
   rules:=h.2.2.2.1.2.1
   fh:=h.2.2.2.2.2.1.2.1
   nb:=fun x hx=>⟨(h.2.2.1.2.2 x hx).2.2.2.2.1.2.1,fun f hf=>((h.2.2.1.2.2 x hx).2.2.2.2.1.2.2 f hf).2.1.2.2.2.2.2.1.2.1⟩
   rl:=fun r hr=>⟨(h.2.2.2.1.2.2 r hr).2.2.1.2.1,(h.2.2.2.1.2.2 r hr).2.2.2.1.2.1,(h.2.2.2.1.2.2 r hr).2.2.2.2.1.1⟩
   may:=fun p hp=>(h.2.2.2.2.2.1.2.2 p hp).2.1.2.1}
theorem xJ(w:bz)(hs:SA w.1.1)(P:Zf)(d b a:Int)(l:List Sp):f4 w P d b a l=some true:=by
 unfold f4
 rw[R8,aM,aC (by decide)]
 obtain⟨r,e,hr⟩:=KN (w:=w) hs.ss P l
 rw[e,aM]
 cases r with
 |false=>rfl
 |
  true=>
  obtain⟨hT,hf,hP,hl⟩:=hr rfl
  rw[aC (by decide)]
  obtain⟨r,ec,hc⟩:=Ts (l:=l) hs hT hf hP (by omega) d b a
  cases r with
  |
   true=>
   rw[KM hs hT hf hP (by omega) (hc.1 rfl) ec]
   rfl
  |
   false=>
   unfold f10
   rw[ec,aM,aA (by decide)]
   rfl
theorem pl4(a0:bz)(a1:Zf)(a2 a3 a4:Int)(a5:List Sp)(af0:wf fE a0)(_af1:wf (.slice 8 (.int .i64)) a1)(_af2:wf (.int .i64) a2)(_af3:wf (.int .i64) a3)(_af4:wf (.int .i64) a4)(_af5:wf (.slice 32 bC) a5):f4 a0 a1 a2 a3 a4 a5=some true:=
 xJ a0 (W2 af0.1.1) a1 a2 a3 a4 a5
end Go.Proofs.YtpmlkhjpbjnagaaGreat
