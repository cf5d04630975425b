/- part -/
import Derived.Test.YtpmlkhjpbjnagaaGreatP1
import Derived.Test.YtpmlkhjpbjnagaaGreatUL
import Derived.Test.YtpmlkhjpbjnagaaGreatA5
import Derived.Test.YtpmlkhjpbjnagaaGreatFB
import Derived.Test.YtpmlkhjpbjnagaaGreatF8
import Derived.Test.YtpmlkhjpbjnagaaGreatF9
import Derived.Test.YtpmlkhjpbjnagaaGreatFA
import Derived.Test.YtpmlkhjpbjnagaaGreatS2
noncomputable section
namespace Go.Proofs.YtpmlkhjpbjnagaaGreat
open Go.Ax
theorem Et{t:dG}{n:Int}(h:f260 t n=some true):t.2.2.2.2.1= -1:=by
 unfold f260 at h
 grind
theorem Eu{t:dG}{n:Int}(h:f261 t n=some true):t.2.2.2.2.1= -1:=by
 unfold f261 at h
 grind
theorem Ev{t:dG}{n:Int}(h:f262 t n=some true):t.2.2.2.2.1= -1:=by
 unfold f262 at h
 grind
theorem idB{x:Zl}{b:Bool}(h:(Option.bind x fun y=>some y)=some b):x=some b:=by
 grind
theorem IV{c:dx}{t:dG}(h:f168 c t=some true):t.2.2.2.2.1<(c.1.2.1.length:Int):=by
 have neg:t.2.2.2.2.1= -1→t.2.2.2.2.1<(c.1.2.1.length:Int):=fun e=>by omega
 by_cases e1:t.1=1
 ·exact(uf h e1).2
 ·unfold f168 at h
  by_cases h1:t.1<1
  ·rw[cH h1] at h;cases h
  ·by_cases h2:(4:Int)<t.1
   ·rw[aC (by grind),cQ h2] at h;cases h
   ·rw[aC (by grind),dE h2,aM,aC (by decide),aF] at h
    dsimp only at h
    rw[aA (by omega),aA (by omega),aC (by omega),aC e1] at h
    by_cases e2:t.1=2
    ·rw[aA e2] at h;exact neg (Et (idB h))
    ·rw[aC e2] at h
     by_cases e3:t.1=3
     ·rw[aA e3] at h;exact neg (Eu (idB h))
     ·rw[aC e3,aA (by omega)] at h;exact neg (Ev (idB h))
theorem Ew(c:dx)(hN:NB c.1)(r:pX):∃b y,f254 c r=some (b,y)∧(b=true→y.2.2.2.2.1<(c.1.2.1.length:Int)):=by
 unfold f254
 rcases la c r.2.2.1 r.2.2.2.1 with⟨hi,e⟩|⟨_,y,e⟩
 ·rw[e,aM]
  dsimp only
  rw[aC (by decide)]
  have hm:=hi.mem
  obtain⟨q,hq⟩:=qb c (nth bO (cz c.1 r.2.2.1) r.2.2.2.1).2.1 ((hN _ hm.1).2 _ hm.2)
  rw[hq,aM]
  cases q with
  |false=>grind
  |
   true=>
   rw[aC (by decide)]
   have hu:=IV hq
   by_cases h0:0≤(nth bO (cz c.1 r.2.2.1) r.2.2.2.1).2.1.2.2.2.2.1
   ·rw[cH h0,aA h0,aA hu]
    obtain⟨z,hz⟩:=qc c (nth aU c.1.2.1 (nth bO (cz c.1 r.2.2.1) r.2.2.2.1).2.1.2.2.2.2.1)
    grind
   grind
 grind
theorem Kh(s:cu)(hN:NB s)(r:pX)(n:Int):∃p,f219 s r n=some p:=by
 unfold f219
 obtain⟨b,y,e,hu⟩:=Ew (s,()) hN r
 rw[e,aM]
 dsimp only
 cases b with
 |false=>exact⟨_,rfl⟩
 |
  true=>
  rw[aC (by decide)]
  by_cases h1:n<0
  ·rw[cH h1];exact⟨_,rfl⟩
  ·rw[aC (show¬decide (n<(0:Int))=true by grind)]
   by_cases h2:(1048576:Int)<n
   ·rw[cQ h2];exact⟨_,rfl⟩
   ·rw[dE h2,aM,aC (by decide),aF]
    dsimp only
    by_cases h0:0≤y.2.2.2.2.1
    ·simp_all
    ·rw[aC (show¬decide ((0:Int)≤y.2.2.2.2.1)=true by grind)];grind
theorem mz(a b c:Int):∃r,f220 a b c=some r:=by
 unfold f220
 repeat' (first|exact⟨_,rfl⟩|split)
def FV(s:cu)(PS:Ze)(x:k9)(a:Int):Prop:=x.2.2.2.1.length=(cz s a).length∧∀v∈x.2.2.2.1,v∈PS
structure LI(s:cu)(PS:Ze)(u:dr)(l:Zn):Prop where
 len:l.length≤u.2.2.1.length
 ok:∀x:Int,0≤x→x<(l.length:Int)→FV s PS (nth br l x) (nth aQ u.2.2.1 x).2.2.1
theorem LI.nil(s:cu)(PS:Ze)(u:dr):LI s PS u []:=⟨gW _,fun x h0 h1=>by grind⟩
theorem LI.push{s:cu}{PS:Ze}{u:dr}{l:Zn}(h:LI s PS u l){x:k9}(hl:l.length<u.2.2.1.length)(hx:FV s PS x (nth aQ u.2.2.1 (l.length:Int)).2.2.1):LI s PS u (l++[x]):=by
 refine⟨by grind,fun j h0 h1=>?_⟩
 rw[kj,kD] at h1
 have e:j=(j.toNat:Int):=by omega
 by_cases hj:j<(l.length:Int)
 ·have h2:=h.ok j h0 hj
  rw[e,cP (t:=br) (by grind),List.getElem_append_left (by omega)]
  rw[e,cP (t:=br) (by omega)] at h2
  exact h2
 ·have ej:j.toNat=l.length:=by omega
  have ej':j=(l.length:Int):=by omega
  rw[ej',cP (t:=br) (by grind),List.getElem_append_right (dO _)]
  grind
abbrev cR(s:cu)(u:dr):fE:=((s,()),(u,()))
theorem yw{s:cu}{PS:Ze}{u:dr}{l:Zn}(hL:LI s PS u l){t:gQ}{n:Int}(hn:n≤(l.length:Int))(h:S6 (cR s u) t n):
 0≤t.2.2.1∧t.2.2.1<(l.length:Int)∧0≤t.2.2.2.1∧t.2.2.2.1<((nth br l t.2.2.1).2.2.2.1.length:Int)∧nth (.int .i64) (nth br l t.2.2.1).2.2.2.1 t.2.2.2.1∈PS:=by
 have hv:t.2.2.1<(l.length:Int):=Int.lt_of_lt_of_le h.v1 hn
 obtain⟨h1,h2⟩:=hL.ok _ h.v0 hv
 have hb:=h.f.b1
 have hb:t.2.2.2.1<((nth br l t.2.2.1).2.2.2.1.length:Int):=by grind
 exact⟨h.v0,hv,h.f.b0,hb,h2 _ (dc (t:=.int .i64) h.f.b0 hb)⟩
theorem NT{s:cu}{PS:Ze}{u:dr}{l:Zn}(hL:LI s PS u l)(hl:l.length=u.2.2.1.length){t:gQ}(ht:ym (cR s u) t):
 ∃v,f166 t l=some v∧(v∈PS∨t.2.2.1= -1∧v=t.2.2.2.2.1):=by
 unfold f166
 by_cases h:t.2.2.1= -1
 ·grind
 ·rcases ht with hi|hi
  ·obtain⟨a1,a2,a3,a4,a5⟩:=yw hL (by grind) hi
   grind
  grind
theorem Cn(day:Int){L:Zz}:∀(l:Zz)(s:gK×Bool),(∀f∈l,f∈L)→(s.2=true→s.1∈L)→((l.foldl (mX day) s).2=true→(l.foldl (mX day) s).1∈L)
 |[],s,_,hs=>hs
 |
  f::l,s,hl,hs=>by
  rw[List.foldl_cons]
  refine Cn day l _ (fun x hx=>hl x (dj _ hx)) ?_
  unfold mX
  split
  ·exact fun _=>hl f (cm ..)
  ·exact hs
theorem NU{l:Zz}{k:cL}{day known:Int}(h:(um l k day known).2=true):∃f∈l,f.2.1=(um l k day known).1:=by
 have hm:=Cn day (L:=l) (l.filter (lu k known)) (zF,false) (fun x hx=>(List.mem_filter.1 hx).1) (fun h=>by cases h)
 have e:(l.filter (lu k known)).foldl (mX day) (zF,false)=lv k day known l (zF,false):=rfl
 rw[e] at hm
 unfold um at h ⊢
 grind
theorem Ex(l:Zz)(k:cL)(day known:Int)(hl:l.length≤aH):∃v b,yQ l k day known=some (v,b)∧(b=true→∃f∈l,f.2.1=v):=by
 unfold yQ
 rw[aA hl]
 exact⟨_,_,rfl,NU⟩
theorem mA(s:cu)(hr:s.2.2.2.1.length≤aH)(a:Int):∃b,f117 s a=some b∧(b=true→0≤a∧a<(s.2.2.1.length:Int)∧2≤(cz s a).length):=by
 have hB:=hB
 have no:∀y:Zl,y=some false→∃r,y=some r∧(r=true→0≤a∧a<(s.2.2.1.length:Int)∧2≤(cz s a).length):=fun y hy=>⟨false,hy,fun h=>(by cases h)⟩
 unfold f117
 by_cases h0:a<0
 ·rw[cH h0];exact no _ rfl
 ·rw[aC (show¬decide (a<(0:Int))=true by grind)]
  by_cases h1:(s.2.2.1.length:Int)≤a
  ·rw[cH h1];exact no _ rfl
  ·rw[aC (show¬decide ((s.2.2.1.length:Int)≤a)=true by grind),aA (Int.not_lt.1 h0),aA (Int.not_le.1 h1)]
   have e:(nth bF s.2.2.1 a).2.2.2.2.1=cz s a:=rfl
   rw[e]
   by_cases h2:((cz s a).length:Int)<2
   ·rw[cQ h2];exact no _ rfl
   ·rw[dE h2,aM,aC (by decide),aF]
    dsimp only
    have yes:∀y:Zl,(∃z,y=some z)→∃z,y=some z∧(z=true→0≤a∧a<(s.2.2.1.length:Int)∧2≤(cz s a).length):=fun y ⟨z,hz⟩=>⟨z,hz,fun _=>⟨Int.not_lt.1 h0,Int.not_le.1 h1,by omega⟩⟩
    apply yes
    suffices hW:W (aI (U:=Int×Zu) (Ab (Int.toNat (s.2.2.2.1.length:Int)+1) (a,s.2.2.2.1,(s.2.2.2.1.length:Int),0,([]:Zu))) (fun x=>some (!(aP (.int .i64) .bool x.1 x.2)))) (fun _=>True) by
     obtain⟨r,hr,_⟩:=hW
     grind
    refine bK.2 (W.ct (bW (L:=Ab) rfl (CT (fun _=>True) fun _=>True) s.2.2.2.1.length (fun c(d:Zu)=>(a,s.2.2.2.1,(s.2.2.2.1.length:Int),(c:Int),d)) (fun c d=>d.length≤c) ?step ?stop _ 0 [] (by omega) (by omega) (dO _)) (fun d h=>⟨_,rfl,trivial⟩) fun r h=>trivial)
    case step=>
     intro rec c d hc hd kk
     dsimp only
     have hw2:=nU c (by omega)
     rw[cH (by omega),eA c,aA (show(c:Int)<(s.2.2.2.1.length:Int) by omega),aA (show d.length+1≤aH by omega),hw2]
     grind [dw]
    case stop=>
     intro rec d hd
     dsimp only
     rw[aC (by grind)]
     exact⟨_,rfl,trivial⟩
theorem Ey{PS:Ze}(v:bz)(s:cu)(hN:NB s)(hl:v.2.1.length≤aH)(hPS:∀f∈v.2.1,f.2.1∈PS)(m a p i d k:Int)(rs:Zh)(hr:(rs.length+1)*40≤aH):
 ∃c b rs',ou m a p i d v k s rs=some (c,b,a,p,i,d,v,k,s,rs')∧rs'.length=rs.length+1∧(b=true→c∈PS):=by
 unfold ou f120
 rw[aM,aA (by grind)]
 obtain⟨x,b,e,hb⟩:=Ex v.2.1 (a,(p,(bp ((bp ((16:Int)*i))+m),()))) d k hl
 rw[e,aM]
 dsimp only
 cases b with
 |false=>exact⟨_,false,_,rfl,by grind,fun h=>(by cases h)⟩
 |
  true=>
  obtain⟨f,hf,rfl⟩:=hb rfl
  obtain⟨q,hq⟩:=tj s hN a m f.2.1
  rw[aA rfl,hq]
  exact⟨_,q,_,rfl,by grind,fun _=>hPS f hf⟩
theorem Ki{PS:Ze}(v:bz)(hN:NB v.1.1)(hR:v.1.1.2.2.2.1.length≤aH)(hF:∀a,0≤a→a<(v.1.1.2.2.1.length:Int)→(cz v.1.1 a).length≤1000)(hl:v.2.1.length≤aH)(hPS:∀f∈v.2.1,f.2.1∈PS)(a p i d k:Int)(hp:p∈PS):
 W (f87 v a p i d k) fun r=>r.2.2.length≤1000∧(r.1=true→FV v.1.1 PS r.2.1 a):=by
 have hB:=hB
 unfold f87
 obtain⟨b,e,hb⟩:=mA v.1.1 hR a
 rw[e,aM]
 have no:∀(z:k9),(([]:Zh).length≤1000∧((false:Bool)=true→FV v.1.1 PS z a)):=fun z=>⟨gW _,fun h=>(by cases h)⟩
 cases b with
 |false=>exact⟨_,rfl,no _⟩
 |
  true=>
  obtain⟨a0,a1,a2⟩:=hb rfl
  rw[aC (by decide)]
  have hs:∃z,f118 p i=some z:=by
   unfold f118
   grind
  obtain⟨z,hz⟩:=hs
  rw[hz,aM]
  cases z with
  |false=>exact⟨_,rfl,no _⟩
  |
   true=>
   rw[aC (by decide)]
   by_cases d0:d<0
   ·rw[cH d0];exact⟨_,rfl,no _⟩
   ·rw[aC (show¬decide (d<(0:Int))=true by grind)]
    by_cases d1:(1024:Int)≤d
    ·rw[cQ d1];exact⟨_,rfl,no _⟩
    ·rw[dE d1,aM,aC (by decide),aF]
     dsimp only
     have hFa:=hF a a0 a1
     have e:(nth bF v.1.1.2.2.1 a).2.2.2.2.1=cz v.1.1 a:=rfl
     refine bK.2 (W.ct (bW (L:=F9) rfl (CT (fun r=>∃t s,r=(a,p,i,0,0,0,t,s)∧s.length≤1000∧t.length=(cz v.1.1 a).length∧∀x∈t,x∈PS) fun r=>r.1=false∧r.2.2.length≤1000) (cz v.1.1 a).length (fun c(u:Ze×Zh)=>((c:Int),v,a,p,i,d,k,0,0,0,v.1.1,u.1,u.2)) (fun c u=>u.1.length=c∧u.2.length≤c∧∀x∈u.1,x∈PS) ?step ?stop iZ 1 ([p],[]) (by show _<18446744073709551616;omega) (by omega) ⟨rfl,gW _,fun x hx=>(by grind)⟩) (fun r h=>?_) fun r h=>?_)
     case step=>
      rintro rec c ⟨t,s⟩ hc ⟨ht,hs,hP⟩ kk
      dsimp only at ht hs hP ⊢
      have hw2:=nU c (by omega)
      rw[e,aA a0,aA a1,cH (by omega)]
      obtain⟨x,b,s',e2,hs',hx⟩:=Ey v v.1.1 hN hl hPS (c:Int) a p i d k s (by omega)
      rw[e2,aM]
      dsimp only
      cases b with
      |false=>exact⟨_,rfl,rfl,by grind⟩
      |
       true=>
       rw[aC (by decide),aA (show(t.length+List.length [x])*8≤aH by grind),hw2]
       refine kk (t++[x],s') ⟨by rw[kj,kD,ht],by show s'.length≤c+1;omega,fun y hy=>?_⟩<;>grind
     case stop=>
      rintro rec ⟨t,s⟩ ⟨ht,hs,hP⟩
      dsimp only at ht hs hP ⊢
      rw[e,aA a0,aA a1,aC (by grind)]
      exact⟨_,rfl,t,s,rfl,by omega,ht,hP⟩
     ·obtain⟨t,s,rfl,h1,h2,h3⟩:=h
      exact⟨_,rfl,h1,fun _=>⟨h2,h3⟩⟩
     grind
theorem rS:∀(rs:Zh)(se:Zd)(acc:Zh),se.length+rs.length≤aH→(acc.length+rs.length)*40≤aH→∃s' a',jR rs se acc=some (s',a')∧s'.length≤se.length+rs.length∧a'.length≤acc.length+rs.length
 |[],se,acc,_,_=>⟨se,acc,rfl,dO _,dO _⟩
 |
  r::rs,se,acc,h1,h2=>by
  rw[gM] at h1 h2 ⊢
  unfold jR
  split
  ·obtain⟨s',a',e,q1,q2⟩:=rS rs se acc (by omega) (by omega)
   grind
  ·have hm:(aY aR r true se).length≤se.length+1:=dw
   rw[aA (by omega),aA (by omega)]
   obtain⟨s',a',e,q1,q2⟩:=rS rs (aY aR r true se) (acc++[r]) (by omega) (by grind)
   grind
abbrev Pl:=cL
abbrev FM:=Zf
abbrev SM:=Zd
abbrev DM:=Zc
def IX(PS:Ze)(ix:Ix):Prop:=∀key,(aP aJ (.slice 64 bH) key (aX ix)).length≤1000000∧∀f∈aP aJ (.slice 64 bH) key (aX ix),f.2.1∈PS
structure WX(w:bz)(lo:Ze)(PS:Ze)(U:List Pl)(ix:Ix):Prop where
 cg:CG w.1.1 lo
 zero:(0:Int)∈PS
 consts:∀u∈w.1.1.2.2.2.1,∀t∈u.2.2.2.2.1,t.2.2.1.2.2.2.2.1∈PS
 pl:∀a p i:Int,0≤a→a<(w.1.1.2.2.1.length:Int)→p∈PS→0≤i→i<4→(a,(p,(i,())))∈U
 len:U.length≤1000000
 fl:∀a,0≤a→a<(w.1.1.2.2.1.length:Int)→(cz w.1.1 a).length≤1000
 ix:IX PS ix
structure WY(w:bz)(PS:Ze)(U:List Pl)(ix:Ix):Prop where
 sw:SW w.1.1
 len:U.length≤1000000
 fl:∀a,0≤a→a<(w.1.1.2.2.1.length:Int)→(cz w.1.1 a).length≤1000
 ix:IX PS ix
variable{w:bz}{lo:Ze}{ix:Ix}{U:List Pl}
theorem WX.y{PS:Ze}(h:WX w lo PS U ix):WY w PS U ix:=⟨h.cg.sw,h.len,h.fl,h.ix⟩
structure FI(s:cu)(PS:Ze)(U:List Pl)(fo:FM)(se:SM)(rs:Zh):Prop where
 jf:(fo.map (·.1)).Nodup
 sub:∀e∈fo,e.1∈U
 ok:∀e∈fo,e.2.2.2.2.1=true→FV s PS e.2.1 e.1.1
 se:se.length≤1000*fo.length
 rs:rs.length≤1000*fo.length
variable{α:Type}
theorem yx:∀(l L:List α),l.Nodup→(∀x∈l,x∈L)→l.length≤L.length:=by
 classical
 intro l
 induction l with
 |nil=>grind
 |
  cons a l ih=>
  intro L hn hs
  have ha:=hs a (cm ..)
  have h:=ih (L.erase a) (List.nodup_cons.1 hn).2 fun x hx=>(List.mem_erase_of_ne (fun e:x=a=>(List.nodup_cons.1 hn).1 (e▸hx))).2 (hs x (dj _ hx))
  grind
variable{fo:FM}{se:SM}
theorem FI.len{s:cu}{PS:Ze}{rs:Zh}(h:FI s PS U fo se rs):fo.length≤U.length:=by
 have:=yx _ U h.jf fun x hx=>by
  obtain⟨e,he,rfl⟩:=List.mem_map.1 hx
  exact h.sub e he
 grind
variable{kt:Ty}
theorem G2{k:kt.den}{y:α}:∀{es:List (kt.den×α)},es.length≤(aY kt k y es).length
 |[]=>gW _
 |
  e::es=>by
  unfold aY
  split
  ·grind
  ·rw[gM,gM];exact Nat.succ_le_succ G2
variable{se':SM}
theorem FI.put{s:cu}{PS:Ze}{rs:Zh}(h:FI s PS U fo se rs){p:Pl}(hp:p∈U){x:MV}(hx:x.2.2.2.1=true→FV s PS x.1 p.1){rs':Zh}
 (h1:se'.length≤1000*(aY aJ p x fo).length) (h2:rs'.length≤1000*(aY aJ p x fo).length):FI s PS U (aY aJ p x fo) se' rs' where
 jf:=cU (kt:=aJ) rfl h.jf
 sub e he:=by
  rcases fj (kt:=aJ) he with rfl|he
  ·exact hp
  ·exact h.sub e he
 ok e he:=by
  rcases fj (kt:=aJ) he with rfl|he
  ·exact hx
  ·exact h.ok e he
 se:=h1
 rs:=h2
theorem FI.nil(s:cu)(PS:Ze)(U:List Pl):FI s PS U [] [] []:=
 ⟨List.nodup_nil,fun e he=>(by cases he),fun e he=>(by cases he),dO _,dO _⟩
theorem Co{PS:Ze}(hw:WY w PS U ix)(p:Pl)(d k:Int)(b:Bool)(m:DM)(z:Unit)(fo:FM)(se:SM)(rs:Zh):
 ∃L:Zz,gB p w ix d k b m z fo se rs=some (w,ix,d,k,b,m,z,fo,se,rs,(w.1,(L,())))∧L.length≤1000*1000000∧∀f∈L,f.2.1∈PS:=by
 have hB:=hB
 suffices hW:W (gB p w ix d k b m z fo se rs) fun r=>∃L:Zz,r=(w,ix,d,k,b,m,z,fo,se,rs,(w.1,(L,())))∧L.length≤1000*1000000∧∀f∈L,f.2.1∈PS by
  obtain⟨r,e,L,rfl,h⟩:=hW
  grind
 have nil:∀f∈([]:Zz),f.2.1∈PS:=fun f hf=>(by cases hf)
 unfold gB
 by_cases h0:0≤p.1
 ·rw[cH h0]
  by_cases h1:p.1<(w.1.1.2.2.1.length:Int)
  ·rw[cQ h1,aM,aA rfl,aA h0,aA h1]
   have e:(nth bF w.1.1.2.2.1 p.1).2.2.2.2.1=cz w.1.1 p.1:=rfl
   have hF:=hw.fl _ h0 h1
   rw[e]
   refine bK.2 (W.ct (bW (L:=kA) rfl (CT (fun r=>∃L:Zz,r=(w,ix,d,k,b,m,z,fo,se,rs,w.1,L)∧L.length≤1000*1000000∧∀f∈L,f.2.1∈PS) fun _=>False) (cz w.1.1 p.1).length (fun c(L:Zz)=>(((cz w.1.1 p.1).length:Int),(c:Int),w,ix,d,k,b,m,z,fo,se,rs,p,w.1,L)) (fun c L=>L.length≤c*1000000∧∀f∈L,f.2.1∈PS) ?step ?stop _ 0 [] (by omega) (by omega) ⟨gW _,nil⟩) (fun r h=>?_) fun r h=>?_)
   case step=>
    rintro rec c L hc ⟨hL,hP⟩ kk
    dsimp only
    have hw2:=nU c (by omega)
    obtain⟨q1,q2⟩:=hw.ix (p.1,(p.2.1,(bp ((bp ((16:Int)*p.2.2.1))+(c:Int)),())))
    grind
   case stop=>
    rintro rec L ⟨hL,hP⟩
    dsimp only
    rw[aC (by grind)]
    exact⟨_,rfl,L,rfl,dh hL (jg _ hF),hP⟩
   ·obtain⟨L,rfl,h⟩:=h
    exact⟨_,rfl,L,rfl,h⟩
   grind
  ·rw[dE h1];exact⟨_,rfl,[],rfl,gW _,nil⟩
 ·rw[aC (show¬decide ((0:Int)≤p.1)=true by grind)];exact⟨_,rfl,[],rfl,gW _,nil⟩
def PL(w:bz)(PS:Ze)(U:List Pl)(ix:Ix)(d k:Int)(b:Bool)(m:DM)(z:Unit)(p:Pl)(r:bz×Ix×Int×Int×Bool×DM×Unit×FM×SM×MV×List pY):Prop:=
 ∃fo se x rs,r=(w,ix,d,k,b,m,z,fo,se,x,rs)∧FI w.1.1 PS U fo se rs∧(x.2.2.2.1=true→FV w.1.1 PS x.1 p.1)
theorem Sj{PS:Ze}(hw:WY w PS U ix)(p:Pl)(d k:Int)(b:Bool)(m:DM)(z:Unit){rs:Zh}(h:FI w.1.1 PS U fo se rs)(hp:bT aJ p fo=false)(hU:p∈U)(hP:p.2.1∈PS):
 ∃(L:Zz)(y:Bool)(x:k9)(n:Zh)(se':SM)(rs':Zh),gB p w ix d k b m z fo se rs=some (w,ix,d,k,b,m,z,fo,se,rs,(w.1,(L,())))∧f87 (w.1,(L,())) p.1 p.2.1 p.2.2.1 d k=some (y,x,n)∧
  ik rs n w ix d k b m z fo se=some (n,w,ix,d,k,b,m,z,fo,se',rs')∧fo.length+1≤aH∧
  PL w PS U ix d k b m z p (w,ix,d,k,b,m,z,aY aJ p (x,((0:Int),(([]:Zn),(y,())))) fo,se',(x,((0:Int),(([]:Zn),(y,())))),rs'):=by
 have hB:=hB
 obtain⟨L,e1,hL,hPS⟩:=Co hw p d k b m z fo se rs
 obtain⟨⟨y,x,n⟩,e2,hn,hx⟩:=Ki (PS:=PS) (w.1,(L,())) hw.sw.nb hw.sw.rules hw.fl (by grind) hPS p.1 p.2.1 p.2.2.1 d k hP
 dsimp only at hn hx
 have hlen:=h.len
 have h1:=hw.len
 have h2:=h.se
 have h3:=h.rs
 obtain⟨se',rs',e3,q1,q2⟩:=rS n se rs (by omega) (by omega)
 refine⟨L,y,x,n,se',rs',e1,e2,?_,by omega,?_⟩
 ·unfold ik
  grind
 ·have hnew:(aY aJ p (x,((0:Int),(([]:Zn),(y,())))) fo).length=fo.length+1:=by
   rw[gq (kt:=aJ) rfl (fun hm=>by rw[(di (kt:=aJ) rfl).2 hm] at hp;cases hp),kj,kD]
  exact⟨_,_,_,_,rfl,h.put hU hx (by omega) (by omega),hx⟩
abbrev Q0:=Pl×bz×Ix×Int×Int×Bool×DM×Unit×FM×SM×List pY×Unit→Option (bz×Ix×Int×Int×Bool×DM×Unit×FM×SM×MV×List pY)
abbrev Q1:=dr×Int×List k9×bz×Ix×Int×Int×Bool×DM×Unit×FM×SM×List pY×Unit→Option (Bool×dr×Int×bz×Ix×Int×Int×Bool×DM×Unit×FM×SM×List k9×List pY)
theorem G3{s:cu}{PS:Ze}{u:dr}{l:Zn}(hN:NB s)(hL:LI s PS u l)(hl:l.length=u.2.2.1.length){t:gQ}(ht:ym (cR s u) t)(h1:t.2.2.1≠-1):
 ∃n,∀(w:bz),w.1.1=s→∀ix d k b m z fo se rs,rL t u w ix d k b m z l fo se rs=some (n,u,w,ix,d,k,b,m,z,l,fo,se,rs):=by
 rcases ht with hi|hi
 ·obtain⟨v,hv,_⟩:=NT hL hl (Or.inl hi)
  obtain⟨p,hp⟩:=Kh s hN ([],([],((nth aQ u.2.2.1 t.2.2.1).2.2.1,(t.2.2.2.1,())))) v
  refine⟨p.1,fun w hw ix d k b m z fo se rs=>?_⟩
  have hp':f219 w.1.1 ([],([],((nth aQ u.2.2.1 t.2.2.1).2.2.1,(t.2.2.2.1,())))) v=some p:=by grind
  unfold rL
  rw[aA hi.v0,aA (show t.2.2.1<(u.2.2.1.length:Int) from hi.v1),hv,aM,hp']
  rfl
 grind
theorem To{s:cu}{PS:Ze}{u:dr}{l:Zn}(hN:NB s)(hw:u.2.2.2.1.length≤aH)(hR:RK (cR s u))(hL:LI s PS u l)(hl:l.length=u.2.2.1.length):
 ∃y,∀(w:bz),w.1.1=s→∀ix d k b m z fo se rs,oE u w ix d k b m z l fo se rs=some (y,w,ix,d,k,b,m,z,l,fo,se,rs):=by
 have hB:=hB
 have key:∀n i:Nat,u.2.2.2.1.length -i<n→i≤u.2.2.2.1.length→∃y:Bool,∀(w:bz),w.1.1=s→∀ix d k b m z fo se rs,
  gJ n (u.2.2.2.1,(u.2.2.2.1.length:Int),(i:Int),w,ix,d,k,b,m,z,l,fo,se,rs,u)=some (if y=true then .brk (w,ix,d,k,b,m,z,l,fo,se,rs) else .ret (false,w,ix,d,k,b,m,z,l,fo,se,rs)):=by
  intro n
  induction n with
  |zero=>grind
  |
   succ n ih=>
   intro i hn hi
   by_cases h:i<u.2.2.2.1.length
   ·have hm:ym (cR s u) (nth aV u.2.2.2.1 (i:Int)).2.1∧ym (cR s u) (nth aV u.2.2.2.1 (i:Int)).2.2.1:=hR.wh _ (dc (t:=aV) (l:=u.2.2.2.1) (dH i) (show(i:Int)<(u.2.2.2.1.length:Int) by omega))
    obtain⟨y,hy⟩:=ih (i+1) (by omega) (by omega)
    have hw2:=nU i (by omega)
    have hi1:(i:Int)<(u.2.2.2.1.length:Int):=by omega
    generalize ha:nth aV u.2.2.2.1 (i:Int)=a at hm
    obtain⟨v1,e1,_⟩:=NT hL hl hm.1
    obtain⟨v2,e2,_⟩:=NT hL hl hm.2
    have fin:∀(p q:Int)(c:Bool),f220 a.1 p q=some c→∀(w:bz) ix d k b m z fo se rs(rec:(ZB)×Int×Int×bz×Ix×Int×Int×Bool×DM×Unit×(Zn)×FM×SM×(Zh)×dr→Option (cJ (bz×Ix×Int×Int×Bool×DM×Unit×(Zn)×FM×SM×(Zh)) (Bool×bz×Ix×Int×Int×Bool×DM×Unit×(Zn)×FM×SM×(Zh)))),
     rec (u.2.2.2.1,(u.2.2.2.1.length:Int),((i+1:Nat):Int),w,ix,d,k,b,m,z,l,fo,se,rs,u)=some (if y=true then .brk (w,ix,d,k,b,m,z,l,fo,se,rs) else .ret (false,w,ix,d,k,b,m,z,l,fo,se,rs))→
     ((f220 a.1 p q).bind fun y10=>if !y10 then(bX (some (false,w,ix,d,k,b,m,z,l,fo,se,rs))) else(rec (u.2.2.2.1,(u.2.2.2.1.length:Int),bp ((i:Int)+(1:Int)),w,ix,d,k,b,m,z,l,fo,se,rs,u)))=some (if(c&&y)=true then .brk (w,ix,d,k,b,m,z,l,fo,se,rs) else .ret (false,w,ix,d,k,b,m,z,l,fo,se,rs)):=by
     intro p q c hc w ix d k b m z fo se rs rec hr
     rw[hc,aM]
     cases c with
     |false=>rfl
     |true=>grind
    have hi0:=dH i
    by_cases n1:a.2.1.2.2.1= -1
    ·obtain⟨c,hc⟩:=mz a.1 v1 v2
     refine⟨c&&y,fun w hws ix d k b m z fo se rs=>?_⟩
     have hyw:=hy w hws ix d k b m z fo se rs
     unfold gJ at hyw ⊢
     rw[aN]
     generalize aL _ n=rec at hyw ⊢
     dsimp only
     rw[cH hi1,aA hi0,aA hi1,ha,e1,aM,e2,aM,aC (show¬(!decide (a.2.1.2.2.1=(-1:Int)))=true by simpa using n1)]
     exact fin v1 v2 c hc w ix d k b m z fo se rs rec hyw
    ·by_cases n2:a.2.2.1.2.2.1= -1
     ·obtain⟨c,hc⟩:=mz a.1 v1 v2
      refine⟨c&&y,fun w hws ix d k b m z fo se rs=>?_⟩
      have hyw:=hy w hws ix d k b m z fo se rs
      unfold gJ at hyw ⊢
      rw[aN]
      generalize aL _ n=rec at hyw ⊢
      dsimp only
      rw[cH hi1,aA hi0,aA hi1,ha,e1,aM,e2,aM,aA (show(!decide (a.2.1.2.2.1=(-1:Int)))=true by simpa using n1),aM,aC (show¬(!decide (a.2.2.1.2.2.1=(-1:Int)))=true by simpa using n2)]
      exact fin v1 v2 c hc w ix d k b m z fo se rs rec hyw
     ·obtain⟨p,hp⟩:=G3 hN hL hl hm.1 n1
      obtain⟨q,hq⟩:=G3 hN hL hl hm.2 n2
      obtain⟨c,hc⟩:=mz a.1 p q
      refine⟨c&&y,fun w hws ix d k b m z fo se rs=>?_⟩
      have hyw:=hy w hws ix d k b m z fo se rs
      unfold gJ at hyw ⊢
      rw[aN]
      generalize aL _ n=rec at hyw ⊢
      dsimp only
      rw[cH hi1,aA hi0,aA hi1,ha,e1,aM,e2,aM,aA (show(!decide (a.2.1.2.2.1=(-1:Int)))=true by simpa using n1),aM,aA (show(!decide (a.2.2.1.2.2.1=(-1:Int)))=true by simpa using n2),hp w hws ix d k b m z fo se rs,aM]
      dsimp only
      rw[hq w hws ix d k b m z fo se rs,aM]
      exact fin p q c hc w ix d k b m z fo se rs rec hyw
   ·refine⟨true,fun w hws ix d k b m z fo se rs=>?_⟩
    unfold gJ
    rw[aN]
    grind
 obtain⟨y,hy⟩:=key (Int.toNat (u.2.2.2.1.length:Int)+1) 0 (by omega) (by omega)
 refine⟨y,fun w hws ix d k b m z fo se rs=>?_⟩
 have hyw:gJ (Int.toNat (u.2.2.2.1.length:Int)+1) (u.2.2.2.1,(u.2.2.2.1.length:Int),0,w,ix,d,k,b,m,z,l,fo,se,rs,u)=_:=hy w hws ix d k b m z fo se rs
 unfold oE
 rw[hyw]
 cases y<;>rfl
theorem NV{s:cu}{PS:Ze}{u:dr}{l:Zn}(hw:u.2.2.2.2.1.length≤aH)(hR:RK (cR s u))(hL:LI s PS u l)(hl:l.length=u.2.2.1.length)(hf:1≤(cz s u.2.1).length)(hf2:(cz s u.2.1).length≤1000)(p:Int)(hp:p∈PS)(h0:(0:Int)∈PS)(hc:∀t∈u.2.2.2.2.1,t.2.2.1.2.2.2.2.1∈PS):
 ∃x,FV s PS x u.2.1∧(u.2.1,(p,((0:Int),(x.2.2.2.1,()))))=x∧∀(w:bz),w.1.1=s→∀ix d k b m z fo se rs,nK u p l w ix d k b m z fo se rs=some (w,ix,d,k,b,m,z,fo,se,rs,x):=by
 have hB:=hB
 have key:∀(n i:Nat)(v:Ze),u.2.2.2.2.1.length -i<n→i≤u.2.2.2.2.1.length→v.length=(cz s u.2.1).length→(∀x∈v,x∈PS)→∃v',v'.length=(cz s u.2.1).length∧(∀x∈v',x∈PS)∧∀(w:bz) ix d k b m z fo se rs,
  jz n (p,l,u.2.2.2.2.1,(u.2.2.2.2.1.length:Int),(i:Int),w,ix,d,k,b,m,z,fo,se,rs,u,0,0,0,v)=some (.brk (p,w,ix,d,k,b,m,z,fo,se,rs,u,0,0,0,v')):=by
  intro n
  induction n with
  |zero=>grind
  |
   succ n ih=>
   intro i v hn hi hv hP
   by_cases h:i<u.2.2.2.2.1.length
   ·have hi1:(i:Int)<(u.2.2.2.2.1.length:Int):=by omega
    have hi0:=dH i
    have hm:=dc (t:=bu) (l:=u.2.2.2.2.1) hi0 hi1
    have hw2:=nU i (by omega)
    have hc2:=hc _ hm
    obtain⟨hi,ht⟩:=hR.st _ hm
    obtain⟨y,ey,hy⟩:=NT hL hl ht
    have hb:(nth bu u.2.2.2.2.1 (i:Int)).2.1<(v.length:Int):=by rw[hv];exact hi.b1
    obtain⟨v',q1,q2,q3⟩:=ih (i+1) (List.set v (Int.toNat (nth bu u.2.2.2.2.1 (i:Int)).2.1) y) (by omega) (by omega) (by grind) (fun x hx=>by
     grind)
    refine⟨v',q1,q2,fun w ix d k b m z fo se rs=>?_⟩
    have hyw:=q3 w ix d k b m z fo se rs
    unfold jz at hyw ⊢
    rw[aN]
    generalize aL _ n=rec at hyw ⊢
    dsimp only
    rw[cH hi1,aA hi0,aA hi1,ey,aM,aA hi.b0,aA hb,hw2]
    exact hyw
   ·refine⟨v,hv,hP,fun w ix d k b m z fo se rs=>?_⟩
    unfold jz
    rw[aN]
    grind
 obtain⟨v',q1,q2,q3⟩:=key (Int.toNat (u.2.2.2.2.1.length:Int)+1) 0 (List.set (List.replicate (Int.toNat ((cz s u.2.1).length:Int)) (0:Int)) (Int.toNat (0:Int)) p) (by omega) (by omega) (by grind) (fun x hx=>by
  grind)
 refine⟨(u.2.1,(p,((0:Int),(v',())))),⟨q1,q2⟩,rfl,fun w hws ix d k b m z fo se rs=>?_⟩
 subst hws
 have e:(nth bF w.1.1.2.2.1 u.2.1).2.2.2.2.1=cz w.1.1 u.2.1:=rfl
 have q:=q3 w ix d k b m z fo se rs
 have q':jz (Int.toNat (u.2.2.2.2.1.length:Int)+1) (p,l,u.2.2.2.2.1,(u.2.2.2.2.1.length:Int),0,w,ix,d,k,b,m,z,fo,se,rs,u,0,0,0,List.set (List.replicate (Int.toNat ((cz w.1.1 u.2.1).length:Int)) (0:Int)) (Int.toNat (0:Int)) p)=_:=q
 unfold nK
 rw[aA hR.h0,aA hR.h1,e,eA _,aA (mH _),aA (by omega),aA (by grind),q',aF]
def iz(s:cu)(ix:Ix)(p:Pl):Zz:=if 0≤p.1∧p.1<(s.2.2.1.length:Int) then(List.range (cz s p.1).length).flatMap fun(c:Nat)=>aP aJ (.slice 64 bH) (p.1,(p.2.1,(bp ((bp ((16:Int)*p.2.2.1))+(c:Int)),()))) (aX ix) else[]
theorem G4{PS:Ze}(hw:WY w PS U ix)(p:Pl)(d k:Int)(b:Bool)(m:DM)(z:Unit)(fo:FM)(se:SM)(rs:Zh):
 gB p w ix d k b m z fo se rs=some (w,ix,d,k,b,m,z,fo,se,rs,(w.1,(iz w.1.1 ix p,()))):=by
 have hB:=hB
 suffices hW:W (gB p w ix d k b m z fo se rs) fun r=>r=(w,ix,d,k,b,m,z,fo,se,rs,(w.1,(iz w.1.1 ix p,()))) by
  obtain⟨r,e,rfl⟩:=hW
  exact e
 unfold gB
 by_cases h0:0≤p.1
 ·rw[cH h0]
  by_cases h1:p.1<(w.1.1.2.2.1.length:Int)
  ·rw[cQ h1,aM,aA rfl,aA h0,aA h1]
   have e:(nth bF w.1.1.2.2.1 p.1).2.2.2.2.1=cz w.1.1 p.1:=rfl
   have hF:=hw.fl _ h0 h1
   rw[e]
   have ea:iz w.1.1 ix p=(List.range (cz w.1.1 p.1).length).flatMap fun(c:Nat)=>aP aJ (.slice 64 bH) (p.1,(p.2.1,(bp ((bp ((16:Int)*p.2.2.1))+(c:Int)),()))) (aX ix):=aA ⟨h0,h1⟩
   rw[ea]
   refine bK.2 (W.ct (bW (L:=kA) rfl (CT (fun r=>r=(w,ix,d,k,b,m,z,fo,se,rs,w.1,(List.range (cz w.1.1 p.1).length).flatMap fun(c:Nat)=>aP aJ (.slice 64 bH) (p.1,(p.2.1,(bp ((bp ((16:Int)*p.2.2.1))+(c:Int)),()))) (aX ix))) fun _=>False) (cz w.1.1 p.1).length (fun c(L:Zz)=>(((cz w.1.1 p.1).length:Int),(c:Int),w,ix,d,k,b,m,z,fo,se,rs,p,w.1,L)) (fun c L=>L.length≤c*1000000∧L=(List.range c).flatMap fun(c:Nat)=>aP aJ (.slice 64 bH) (p.1,(p.2.1,(bp ((bp ((16:Int)*p.2.2.1))+(c:Int)),()))) (aX ix)) ?step ?stop _ 0 [] (by omega) (by omega) ⟨gW _,rfl⟩) (fun r h=>?_) fun r h=>h.elim)
   case step=>
    rintro rec c L hc ⟨hL,hP⟩ kk
    dsimp only
    have hw2:=nU c (by omega)
    obtain⟨q1,q2⟩:=hw.ix (p.1,(p.2.1,(bp ((bp ((16:Int)*p.2.2.1))+(c:Int)),())))
    rw[cH (by omega),aA (by omega),hw2]
    grind [List.range_succ]
   case stop=>
    rintro rec L ⟨hL,hP⟩
    dsimp only
    rw[aC (by grind),hP]
    exact⟨_,rfl,rfl⟩
   ·subst h
    exact⟨_,rfl,rfl⟩
  ·have ea:iz w.1.1 ix p= []:=aC fun h=>h1 h.2
   rw[dE h1,ea];exact⟨_,rfl,rfl⟩
 ·have ea:iz w.1.1 ix p= []:=aC fun h=>h0 h.1
  rw[aC (show¬decide ((0:Int)≤p.1)=true by grind),ea];exact⟨_,rfl,rfl⟩
structure T2(w1:bz)(ix1:Ix)(k1:Int)(w2:bz)(ix2:Ix)(k2:Int)(lo PS:Ze)(U:List Pl)(d:Int)(Gd:pY→Prop):Prop where
 h1:WX w1 lo PS U ix1
 h2:WX w2 lo PS U ix2
 tb:w2.1=w1.1
 rd:∀(p:Pl) r,f87 (w1.1,(iz w1.1.1 ix1 p,())) p.1 p.2.1 p.2.2.1 d k1=some r→(∀q∈r.2.2,Gd q)→f87 (w2.1,(iz w2.1.1 ix2 p,())) p.1 p.2.1 p.2.2.1 d k2=some r
structure FT(b:cu):Prop where
 dp:b.2.2.1.length≤6
 rules:b.2.2.2.1.length≤4
 fields:∀x∈b.2.2.1,x.2.2.2.2.1.length≤6
 ab2:∀x∈b.2.2.2.1,x.2.2.2.2.1.length≤6
theorem NW(b:cu)(h:SS b):∃r,f108 b=some r∧(r=true→FT b):=by
 have hB:=hB
 have h3:=h.dp
 have h4:=h.rules
 have h5:=h.iY
 have h6:=h.fh
 suffices hW:W (f108 b) fun r=>r=true→FT b by
  trivial
 have nb:∀n:Nat,n≤aH→n -0<iZ:=fun n hn=>by show _<18446744073709551616;omega
 have no:(false:Bool)=true→FT b:=fun h=>(by cases h)
 unfold f108
 refine bK.2 (W.ct (bW (L:=IS) rfl (CT (fun d=>d=b∧∀j(hj:j<b.2.2.1.length),b.2.2.1[j].2.2.2.2.1.length≤6) fun r=>r=false) b.2.2.1.length (fun c(_:Unit)=>((c:Int),b)) (fun c _=>∀j(hj:j<b.2.2.1.length),j<c→b.2.2.1[j].2.2.2.2.1.length≤6) ?step ?stop iZ 0 () (nb _ h3) (by omega) (fun j _ h=>absurd h (Nat.not_lt_zero _))) (fun d hd=>?_) fun r hr=>by grind)
 case step=>
  intro rec c _ hc hI kk
  dsimp only
  have hw2:=nU c (by omega)
  have hcc:(c:Int)<(b.2.2.1.length:Int):=by omega
  rw[cH hcc,eA c,aA hcc,cP (t:=bF) hc]
  by_cases a1:(6:Int)<(b.2.2.1[c].2.2.2.2.1.length:Int)
  ·rw[cH a1];exact⟨_,rfl,rfl⟩
  ·rw[aC (show¬decide ((6:Int)<(b.2.2.1[c].2.2.2.2.1.length:Int))=true by grind),eA c,aA hcc,aM]
   split
   ·exact⟨_,rfl,rfl⟩
   ·rw[hw2]
    refine kk () fun j hj hjc=>?_<;>grind
 case stop=>
  intro rec _ hI
  dsimp only
  rw[aC (by grind)]
  exact⟨_,rfl,rfl,fun j hj=>hI j hj hj⟩
 obtain⟨rfl,hf⟩:=hd
 refine bK.2 (W.ct (bW (L:=IT) rfl (CT (fun d'=>d'=d∧∀j(hj:j<d.2.2.2.1.length),d.2.2.2.1[j].2.2.2.2.1.length≤6) fun r=>r=false) d.2.2.2.1.length (fun c(_:Unit)=>((c:Int),d)) (fun c _=>∀j(hj:j<d.2.2.2.1.length),j<c→d.2.2.2.1[j].2.2.2.2.1.length≤6) ?step ?stop iZ 0 () (nb _ h4) (by omega) (fun j _ h=>absurd h (Nat.not_lt_zero _))) (fun d' hd=>?_) fun r hr=>by grind)
 case step=>
  intro rec c _ hc hI kk
  dsimp only
  have hw2:=nU c (by omega)
  have hcc:(c:Int)<(d.2.2.2.1.length:Int):=by omega
  rw[cH hcc,eA c,aA hcc,cP (t:=bG) hc]
  by_cases a1:(4:Int)<(d.2.2.2.1[c].2.2.1.length:Int)
  ·rw[cH a1];exact⟨_,rfl,rfl⟩
  ·rw[aC (show¬decide ((4:Int)<(d.2.2.2.1[c].2.2.1.length:Int))=true by grind),eA c,aA hcc]
   by_cases a2:(5:Int)<(d.2.2.2.1[c].2.2.2.1.length:Int)
   ·rw[cH a2];exact⟨_,rfl,rfl⟩
   ·rw[aC (show¬decide ((5:Int)<(d.2.2.2.1[c].2.2.2.1.length:Int))=true by grind),eA c,aA hcc,aM]
    by_cases a3:(6:Int)<(d.2.2.2.1[c].2.2.2.2.1.length:Int)
    ·rw[cH a3];exact⟨_,rfl,rfl⟩
    ·rw[aC (show¬decide ((6:Int)<(d.2.2.2.1[c].2.2.2.2.1.length:Int))=true by grind),hw2]
     refine kk () fun j hj hjc=>?_<;>grind
 case stop=>
  intro rec _ hI
  dsimp only
  rw[aC (by grind)]
  exact⟨_,rfl,rfl,fun j hj=>hI j hj hj⟩
 obtain⟨rfl,hs⟩:=hd
 refine bK.2 (W.ct (bW (L:=El) rfl (CT (fun d=>d=d') fun r=>r=false) d'.2.2.2.2.1.length (fun c(_:Unit)=>((c:Int),d')) (fun _ _=>True) ?step ?stop iZ 0 () (nb _ h5) (by omega) trivial) (fun d hd=>?_) fun r hr=>by grind)
 case step=>
  intro rec c _ hc _ kk
  dsimp only
  have hw2:=nU c (by omega)
  have hcc:(c:Int)<(d'.2.2.2.2.1.length:Int):=by omega
  rw[cH hcc,eA c,aA hcc]
  split
  ·exact⟨_,rfl,rfl⟩
  simp_all
 case stop=>
  intro rec _ _
  dsimp only
  rw[aC (by grind)]
  exact⟨_,rfl,rfl⟩
 subst hd
 refine bK.2 (W.ct (bW (L:=Em) rfl (CT (fun d'=>d'=d) fun r=>r=false) d.2.2.2.2.2.1.length (fun c(_:Unit)=>((c:Int),d)) (fun _ _=>True) ?step ?stop iZ 0 () (nb _ h6) (by omega) trivial) (fun d' hd=>?_) fun r hr=>by grind)
 case step=>
  intro rec c _ hc _ kk
  dsimp only
  have hw2:=nU c (by omega)
  have hcc:(c:Int)<(d.2.2.2.2.2.1.length:Int):=by omega
  rw[cH hcc,eA c,aA hcc]
  split
  ·exact⟨_,rfl,rfl⟩
  simp_all
 case stop=>
  intro rec _ _
  dsimp only
  rw[aC (by grind)]
  exact⟨_,rfl,rfl⟩
 subst hd
 by_cases c1:(d'.1.length:Int)≤4
 ·rw[cH c1]
  by_cases c2:(d'.2.1.length:Int)≤5
  ·rw[cH c2]
   by_cases c3:(d'.2.2.1.length:Int)≤6
   ·rw[cH c3]
    by_cases c4:(d'.2.2.2.1.length:Int)≤4
    ·rw[cH c4]
     have fW:FT d':=⟨by omega,by omega,fun x hx=>by
      obtain⟨j,hj,rfl⟩:=jZ hx
      grind,fun x hx=>by
      obtain⟨j,hj,rfl⟩:=jZ hx
      grind⟩
     split
     ·exact⟨_,rfl,fun _=>fW⟩
     ·exact⟨_,rfl,no⟩
    ·rw[aC (show¬decide ((d'.2.2.2.1.length:Int)≤4)=true by grind)];exact⟨_,rfl,no⟩
   ·rw[aC (show¬decide ((d'.2.2.1.length:Int)≤6)=true by grind)];exact⟨_,rfl,no⟩
  ·rw[aC (show¬decide ((d'.2.1.length:Int)≤5)=true by grind)];exact⟨_,rfl,no⟩
 ·rw[aC (show¬decide ((d'.1.length:Int)≤4)=true by grind)];exact⟨_,rfl,no⟩
theorem NX(w:bz)(h:SS w.1.1):∃r,f49 w=some r∧(r=true→FT w.1.1∧w.2.1.length≤60):=by
 obtain⟨r,e,hr⟩:=NW w.1.1 h
 unfold f49 f72
 rw[e,aM]
 grind
theorem NY(w:bz)(h:SS w.1.1):∃r,f21 w=some r∧(r=true→FT w.1.1∧w.2.1.length≤60):=by
 have hB:=hB
 have h4:=h.rules
 suffices hW:W (f21 w) fun r=>r=true→FT w.1.1∧w.2.1.length≤60 by
  trivial
 have no:(false:Bool)=true→FT w.1.1∧w.2.1.length≤60:=fun h=>(by cases h)
 unfold f21
 refine bK.2 (W.ct (bW (L:=NC) rfl (CT (fun d=>d=(w,w.1.1)) fun r=>r=false) w.1.1.2.2.2.1.length (fun c(_:Unit)=>((c:Int),w,w.1.1)) (fun _ _=>True) ?step ?stop iZ 0 () (by show _<18446744073709551616;omega) (by omega) trivial) (fun d hd=>?_) fun r hr=>by grind)
 case step=>
  intro rec c _ hc _ kk
  dsimp only
  have hw2:=nU c (by omega)
  have hcc:(c:Int)<(w.1.1.2.2.2.1.length:Int):=by omega
  rw[cH hcc,eA c,aA hcc]
  split
  ·exact⟨_,rfl,rfl⟩
  simp_all
 case stop=>
  intro rec _ _
  dsimp only
  rw[aC (by grind)]
  exact⟨_,rfl,rfl⟩
 subst hd
 dsimp only
 obtain⟨r,e,hr⟩:=NX w h
 rw[e,aM]
 cases r with
 |false=>exact⟨false,rfl,no⟩
 |
  true=>
  have ht:=hr rfl
  rw[aA rfl]
  split
  ·exact⟨_,rfl,fun _=>ht⟩
  ·exact⟨false,rfl,no⟩
def iR(k:cL)(l:Zz):Zz:=l.filter fun f=>bl aJ f.1 k
theorem IW(k:cL)(l:Zz)(x:gK):iR k (l++[x])=iR k l++if bl aJ x.1 k=true then[x] else[]:=by
 grind [iR]
def xW(l:Zp):Zu:=l.foldl (fun m u=>aY (.int .i64) u.2.1 true m) []
theorem IY(l:Zp)(u:dr):xW (l++[u])=aY (.int .i64) u.2.1 true (xW l):=by
 grind [xW]
theorem yy:∀(l:Zp)(m:Zu),(l.foldl (fun m u=>aY (.int .i64) u.2.1 true m) m).length≤m.length+l.length
 |[],m=>dO _
 |
  u::l,m=>by
  have h:=yy l (aY (.int .i64) u.2.1 true m)
  have h2:(aY (.int .i64) u.2.1 true m).length≤m.length+1:=dw (kt:=.int .i64)
  rw[List.foldl_cons,gM]
  omega
theorem Kj(l:Zp):(xW l).length≤l.length:=by
 have h:=yy l []
 rw[List.length_nil,eM] at h
 exact h
theorem yz(l:List α)(c:Nat)(h:c<l.length):l.take (c+1)=l.take c++[l[c]]:=List.take_succ_eq_append_getElem h
theorem Ez(w:bz)(hf:w.2.1.length≤1000000)(hr:w.1.1.2.2.2.1.length≤aH)(d k:Int)(v:Bool):
 ∃ix:List (cL×Zz),ph w d k v=some (w,some ix,d,k,v,some (xW w.1.1.2.2.2.1),(),[],[],[])∧∀key,aP aJ (.slice 64 bH) key ix=iR key w.2.1:=by
 have hB:=hB
 suffices hW:W (ph w d k v) fun r=>∃ix:List (cL×Zz),r=(w,some ix,d,k,v,some (xW w.1.1.2.2.2.1),(),[],[],[])∧∀key,aP aJ (.slice 64 bH) key ix=iR key w.2.1 by
  obtain⟨r,e,ix,rfl,h⟩:=hW
  grind
 unfold ph
 refine bK.2 (W.ct (bW (L:=yr) rfl (CT (fun r=>∃ix:List (cL×Zz),r=(d,k,w,ix,([]:Zu),w,0,0,v)∧∀key,aP aJ (.slice 64 bH) key ix=iR key w.2.1) fun _=>False) w.2.1.length (fun c(ix:List (cL×Zz))=>(d,k,w.2.1,(w.2.1.length:Int),(c:Int),w,ix,([]:Zu),w,0,0,v)) (fun c ix=>ix.length≤2*c∧∀key,aP aJ (.slice 64 bH) key ix=iR key (w.2.1.take c)) ?step ?stop _ 0 [] (by omega) (by omega) ⟨gW _,fun key=>rfl⟩) (fun r hr=>?_) fun r hr=>hr.elim)
 case step=>
  rintro rec c ix hc ⟨hl,hI⟩ kk
  dsimp only
  have hw2:=nU c (by omega)
  have hcc:(c:Int)<(w.2.1.length:Int):=by omega
  rw[cH hcc,eA c,aA hcc,cP (t:=bH) hc]
  have ht:=yz w.2.1 c hc
  generalize w.2.1[c]=x at ht ⊢
  have h1:(aP aJ (.slice 64 bH) x.1 ix).length≤w.2.1.length:=by
   rw[hI x.1]
   exact dh (tC ..) (by grind)
  rw[aA ((cK aJ x.1 x.1).2 rfl),aA (show ix.length+1≤aH by omega),aA (show((aP aJ (.slice 64 bH) x.1 ix).length+List.length [x])*64≤aH by grind),hw2]
  refine kk _ ⟨?_,fun key=>?_⟩
  ·have q1:(aY aJ x.1 (Ty.aD (.slice 64 bH)) ix).length≤ix.length+1:=dw (kt:=aJ)
   have q2:(aY aJ x.1 (aP aJ (.slice 64 bH) x.1 ix++[x]) (aY aJ x.1 (Ty.aD (.slice 64 bH)) ix)).length≤(aY aJ x.1 (Ty.aD (.slice 64 bH)) ix).length+1:=dw (kt:=aJ)
   omega
  ·rw[ht,IW]
   by_cases e:key=x.1
   ·subst e
    rw[du (kt:=aJ) (vt:=.slice 64 bH) rfl,hI,aA ((cK aJ x.1 x.1).2 rfl)]
   ·rw[dF (kt:=aJ) (vt:=.slice 64 bH) rfl e,dF (kt:=aJ) (vt:=.slice 64 bH) rfl e,hI,aC (fun h=>e ((cK aJ x.1 key).1 h).symm),fT]
 case stop=>
  rintro rec ix ⟨hl,hI⟩
  dsimp only
  rw[aC (by grind)]
  rw[List.take_length] at hI
  exact⟨_,rfl,ix,rfl,hI⟩
 obtain⟨ix,rfl,hI⟩:=hr
 dsimp only
 refine bK.2 (W.ct (bW (L:=yu) rfl (CT (fun r=>r=(d,k,ix,xW w.1.1.2.2.2.1,w,0,0,v)) fun _=>False) w.1.1.2.2.2.1.length (fun c(m:Zu)=>(d,k,w.1.1.2.2.2.1,(w.1.1.2.2.2.1.length:Int),(c:Int),ix,m,w,0,0,v)) (fun c m=>m=xW (w.1.1.2.2.2.1.take c)) ?step ?stop _ 0 [] (by omega) (by omega) rfl) (fun r hr=>?_) fun r hr=>hr.elim)
 case step=>
  rintro rec c m hc rfl kk
  dsimp only
  have hw2:=nU c (by omega)
  have hcc:(c:Int)<(w.1.1.2.2.2.1.length:Int):=by omega
  have hl:=Kj (w.1.1.2.2.2.1.take c)
  rw[l6] at hl
  rw[cH hcc,eA c,aA hcc,aA (show(xW (w.1.1.2.2.2.1.take c)).length+1≤aH by omega),hw2,cP (t:=bG) hc]
  grind [yz,IY]
 case stop=>
  rintro rec m rfl
  dsimp only
  rw[aC (by grind),List.take_length]
  exact⟨_,rfl,rfl⟩
 subst hr
 exact⟨_,rfl,ix,rfl,hI⟩
theorem lf{α β:Type}{f:α→List β}{n:Nat}:∀{l:List α},(∀x∈l,(f x).length≤n)→(l.flatMap f).length≤l.length*n
 |[],_=>gW _
 |
  x::l,h=>by
  have h1:=h x (cm ..)
  have h2:=lf (f:=f) (n:=n) (l:=l) fun y hy=>h y (dj _ hy)
  grind [gV]
def Cg(w:bz)(p:Int):Ze:=0::p::(w.2.1.map (fun f=>f.2.1)++w.1.1.2.2.2.1.flatMap fun u=>u.2.2.2.2.1.map fun t=>t.2.2.1.2.2.2.2.1)
def Uo(w:bz)(p:Int)(x:Pl):List Pl:=x::(List.range w.1.1.2.2.1.length).flatMap fun(i:Nat)=>(Cg w p).flatMap fun(q:Int)=>(List.range 4).map fun(j:Nat)=>(((i:Int),(q,((j:Int),()))):Pl)
theorem G5(p:Int)(hT:FT w.1.1)(hf:w.2.1.length≤60):(Cg w p).length≤86:=by
 have h:=lf (f:=fun u:dr=>u.2.2.2.2.1.map fun t=>t.2.2.1.2.2.2.2.1) (n:=6) (l:=w.1.1.2.2.2.1) fun x hx=>by rw[jC];exact hT.ab2 x hx
 have h4:=hT.rules
 grind [Cg]
theorem Kk(p:Int)(x:Pl)(hT:FT w.1.1)(hf:w.2.1.length≤60):(Uo w p x).length≤2100:=by
 have h1:=G5 p hT hf
 have h2:∀i:Nat,((Cg w p).flatMap fun(q:Int)=>(List.range 4).map fun(j:Nat)=>(((i:Int),(q,((j:Int),()))):Pl)).length≤344:=fun i=>by
  have:=lf (f:=fun(q:Int)=>(List.range 4).map fun(j:Nat)=>(((i:Int),(q,((j:Int),()))):Pl)) (n:=4) (l:=Cg w p) fun y _=>by grind
  omega
 have h3:=lf (f:=fun(i:Nat)=>(Cg w p).flatMap fun(q:Int)=>(List.range 4).map fun(j:Nat)=>(((i:Int),(q,((j:Int),()))):Pl)) (n:=344) (l:=List.range w.1.1.2.2.1.length) fun i _=>h2 i
 rw[List.length_range] at h3
 have h4:=hT.dp
 grind [Uo]
theorem Sk(p:Int)(x:Pl){a q i:Int}(a0:0≤a)(a1:a<(w.1.1.2.2.1.length:Int))(hq:q∈Cg w p)(i0:0≤i)(i1:i<4):(a,(q,(i,())))∈Uo w p x:=by
 refine dj _ (List.mem_flatMap.2 ⟨a.toNat,List.mem_range.2 (by omega),List.mem_flatMap.2 ⟨q,hq,List.mem_map.2 ⟨i.toNat,List.mem_range.2 (by omega),?_⟩⟩⟩)<;>grind
theorem WXo(hc:CG w.1.1 lo)(hT:FT w.1.1)(hf:w.2.1.length≤60)(p:Int)(x:Pl)(hix:IX (Cg w p) ix):WX w lo (Cg w p) (Uo w p x) ix where
 cg:=hc
 zero:=cm ..
 consts u hu t ht:=dj _ (dj _ (kE _ (List.mem_flatMap.2 ⟨u,hu,List.mem_map.2 ⟨t,ht,rfl⟩⟩)))
 pl _ _ _ a0 a1 hq i0 i1:=Sk p x a0 a1 hq i0 i1
 len:=dh (Kk p x hT hf) (by decide)
 fl a a0 a1:=by
  have:=hT.fields _ (dc (t:=bF) (l:=w.1.1.2.2.1) a0 a1)
  exact dh this (by decide)
 ix:=hix
abbrev Rs:=MV
abbrev In:=k9
abbrev Rd:=pY
abbrev Ru:=dr
abbrev An:=Bool×In×List Rd
inductive Qy(α:Type) where
 |ret:α→Qy α
 |ask:Pl→(Bool→In→Qy α)→Qy α
def Qy.bind{α β:Type}:Qy α→(α→Qy β)→Qy β
 | .ret a,f=>f a
 | .ask p k,f=>.ask p fun b x=>(k b x).bind f
def Qy.run{α:Type}(O:Pl→An):Qy α→α×List Rd
 | .ret a=>(a,[])
 | .ask p k=>(((k (O p).1 (O p).2.1).run O).1,(O p).2.2++((k (O p).1 (O p).2.1).run O).2)
variable{β:Type}
theorem Qy.run_bind(O:Pl→An)(f:α→Qy β):∀x:Qy α,(x.bind f).run O=(((f (x.run O).1).run O).1,(x.run O).2++((f (x.run O).1).run O).2)
 | .ret a=>rfl
 |
  .ask p k=>by
  show((((k (O p).1 (O p).2.1).bind f).run O).1,(O p).2.2++(((k (O p).1 (O p).2.1).bind f).run O).2)=((((f ((k (O p).1 (O p).2.1).run O).1)).run O).1,((O p).2.2++((k (O p).1 (O p).2.1).run O).2)++((f ((k (O p).1 (O p).2.1).run O).1).run O).2)
  rw[Qy.run_bind O f (k (O p).1 (O p).2.1),vS]
open Classical in
def cW:List Rd→List Rd→List Rd
 |rs,[]=>rs
 |rs,r::t=>cW (if r∈rs then rs else rs++[r]) t
theorem dU:∀(a rs b:List Rd),cW rs (a++b)=cW (cW rs a) b
 |[],_,_=>rfl
 |r::a,rs,b=>dU a (if r∈rs then rs else rs++[r]) b
theorem qg:∀(t rs:List Rd)(x:Rd),x∈cW rs t↔x∈rs∨x∈t
 |[],rs,x=>by simp[cW]
 |
  r::t,rs,x=>by
  unfold cW
  rw[qg t]
  grind
theorem vG:∀(t rs:List Rd),(∀r∈t,r∈rs)→cW rs t=rs
 |[],_,_=>rfl
 |
  r::t,rs,h=>by
  unfold cW
  rw[aA (h r (cm ..))]
  exact vG t rs fun x hx=>h x (dj _ hx)
def SJ(se:SM)(rs:List Rd):Prop:=∀r,aP aR .bool r se=true↔r∈rs
theorem rT:∀(n:List Rd)(se:SM)(acc:List Rd)(s':SM)(a':List Rd),jR n se acc=some (s',a')→SJ se acc→a'=cW acc n∧SJ s' a'
 |
  [],se,acc,s',a',h,hs=>by
  cases h
  trivial
 |
  r::n,se,acc,s',a',h,hs=>by
  unfold jR at h
  unfold cW
  split at h
  ·rename_i hm
   rw[aA ((hs r).1 hm)]
   exact rT n se acc s' a' h hs
  ·rename_i hm
   rw[aC fun hr=>hm ((hs r).2 hr)]
   split at h
   ·split at h
    ·refine rT n _ _ s' a' h fun x=>?_
     rw[i7,mG]
     by_cases e:x=r
     ·subst e
      rw[du (kt:=aR) (vt:=.bool) rfl]
      grind
     ·rw[dF (kt:=aR) (vt:=.bool) rfl e,hs x]
      grind
    grind
   grind
def w0(s:cu):bz:=((s,([],())),([],()))
def Cp(s:cu)(u:Ru)(l:List In):Bool:=match oE u (w0 s) none 0 0 false none () l [] [] [] with
 |some r=>r.1
 |none=>false
def i6(s:cu)(u:Ru)(p:Int)(l:List In):In:=(u.2.1,(p,((0:Int),((match nK u p l (w0 s) none 0 0 false none () [] [] [] with
 |some r=>r.2.2.2.2.2.2.2.2.2.2.2.2.2.1
 |none=>[]),()))))
def rU(u:Ru)(p:Int)(l:List In):Int:=
 if(nth aQ u.2.2.1 (l.length:Int)).2.2.2.1.2.2.1= -1 then p else nth (.int .i64) (nth br l (nth aQ u.2.2.1 (l.length:Int)).2.2.2.1.2.2.1).2.2.2.1 (nth aQ u.2.2.1 (l.length:Int)).2.2.2.1.2.2.2.1
def gS(look:Pl→Qy Rs)(ch:List In→Qy (Bool×List In))(a o:Int)(l:List In):Nat→Nat→Qy (Bool×List In)
 |0,_=>.ret (false,l)
 |n+1,c=>(look (a,(o,((c:Int),())))).bind fun x=>if x.2.2.2.1=true then(ch (l++[x.1])).bind fun y=>if y.1=true then .ret y else gS look ch a o l n (c+1) else gS look ch a o l n (c+1)
def cn(m:DM)(a:Int):Nat:=if aP (.int .i64) .bool a (aX m)=true then 1 else 4
def cM(look:Pl→Qy Rs)(s:cu)(m:DM)(u:Ru)(p:Int):Nat→List In→Qy (Bool×List In)
 |0,l=>.ret (Cp s u l,l)
 |n+1,l=>gS look (cM look s m u p n) (nth aQ u.2.2.1 (l.length:Int)).2.2.1 (rU u p l) l (cn m (nth aQ u.2.2.1 (l.length:Int)).2.2.1) 0
def zR:Rs:=((0,(0,(0,([],())))),(0,([],(false,()))))
def eJ(ch:Ru→Qy (Bool×List In))(bd:Ru→List In→In)(R:List Ru)(a:Int):Nat→Nat→Qy Rs
 |0,_=>.ret zR
 |n+1,c=>if(nth bG R (c:Int)).2.1=a then(ch (nth bG R (c:Int))).bind fun y=>if y.1=true then .ret (bd (nth bG R (c:Int)) y.2,((c:Int),(y.2,(true,())))) else eJ ch bd R a n (c+1) else eJ ch bd R a n (c+1)
def jA(s:cu)(m:DM)(look:Pl→Qy Rs)(p:Pl):Qy Rs:=
 if aP (.int .i64) .bool p.1 (aX m)=true then eJ (fun u=>cM look s m u p.2.1 u.2.2.1.length []) (fun u l=>i6 s u p.2.1 l) s.2.2.2.1 p.1 s.2.2.2.1.length 0 else .ask p fun b x=>.ret (x,(0,([],(b,()))))
def Cq(s:cu)(m:DM):Nat→Pl→Qy Rs
 |0,_=>.ret zR
 |n+1,p=>jA s m (Cq s m n) p
variable{k1:Pl→Qy Rs}{k2:Pl→Qy Rs}
theorem qh{ch1 ch2:List In→Qy (Bool×List In)}{a:Int}{l:List In}(h:∀y,k1 (a,y)=k2 (a,y))(hc:∀x,ch1 (l++[x])=ch2 (l++[x]))(o:Int):∀n c,gS k1 ch1 a o l n c=gS k2 ch2 a o l n c
 |0,_=>rfl
 |
  n+1,c=>by
  unfold gS
  rw[h,qh h hc o n]
  simp only[hc]
theorem oM{s:cu}{m:DM}{u:Ru}(h:∀v∈u.2.2.1,∀y,k1 (v.2.2.1,y)=k2 (v.2.2.1,y))(p:Int):∀n l,l.length+n=u.2.2.1.length→cM k1 s m u p n l=cM k2 s m u p n l
 |0,_,_=>rfl
 |n+1,l,hl=>qh (h _ (dc (t:=aQ) (l:=u.2.2.1) (dH l.length) (by omega))) (fun x=>oM h p n (l++[x]) (by grind)) _ _ _
variable{bd:Ru→List In→In}
theorem qi{c1 c2:Ru→Qy (Bool×List In)}{R:List Ru}{a:Int}(h:∀u∈R,u.2.1=a→c1 u=c2 u):∀n c,c+n≤R.length→eJ c1 bd R a n c=eJ c2 bd R a n c
 |0,_,_=>rfl
 |
  n+1,c,hc=>by
  unfold eJ
  rw[qi h n (c+1) (by omega)]
  split
  ·rename_i hu
   rw[h _ (dc (t:=bG) (l:=R) (dH c) (by omega)) hu]
  ·rfl
theorem tp{s:cu}{m:DM}{p:Pl}(h:∀u∈s.2.2.2.1,u.2.1=p.1→∀v∈u.2.2.1,∀y,k1 (v.2.2.1,y)=k2 (v.2.2.1,y)):jA s m k1 p=jA s m k2 p:=by
 unfold jA
 rw[qi (fun u hu e=>oM (h u hu e) p.2.1 _ [] (eM _)) _ 0 (by omega)]
theorem qj{s:cu}(hr:∀u∈s.2.2.2.1,∀v∈u.2.2.1,lo.idxOf v.2.2.1<lo.idxOf u.2.1)(m:DM):∀n n' p,lo.idxOf p.1<n→lo.idxOf p.1<n'→Cq s m n p=Cq s m n' p
 |
  n+1,n'+1,p,h,h'=>tp fun u hu e v hv y=>by
  have:=hr u hu v hv
  rw[e] at this
  exact qj hr m n n' _ (show lo.idxOf v.2.2.1<n by omega) (show lo.idxOf v.2.2.1<n' by omega)
def LQ(s:cu)(m:DM)(lo:Ze)(p:Pl):Qy Rs:=Cq s m (lo.idxOf p.1+1) p
theorem Cr{s:cu}(hr:∀u∈s.2.2.2.1,∀v∈u.2.2.1,lo.idxOf v.2.2.1<lo.idxOf u.2.1)(m:DM)(p:Pl):LQ s m lo p=jA s m (LQ s m lo) p:=by
 show jA s m (Cq s m (lo.idxOf p.1)) p=_
 refine tp fun u hu e v hv y=>?_
 have:=hr u hu v hv
 rw[e] at this
 exact qj hr m _ _ _ this (Nat.lt_succ_self _)
structure MY(w:bz)(PS:Ze)(U:List Pl)(ix:Ix)(d k:Int)(O:Pl→An):Prop where
 wy:WY w PS U ix
 ra:∀p:Pl,p.2.1∈PS→f87 (w.1,(iz w.1.1 ix p,())) p.1 p.2.1 p.2.2.1 d k=some (O p)
structure MX(w:bz)(lo PS:Ze)(U:List Pl)(ix:Ix)(m:DM)(d k:Int)(O:Pl→An)(L:Pl→Qy Rs):Prop where
 wx:WX w lo PS U ix
 my:MY w PS U ix d k O
 fix:∀p,L p=jA w.1.1 m L p
variable{w:bz} {lo PS:Ze} {U:List Pl} {ix:Ix} {m:DM} {d k:Int} {O:Pl→An} {L:Pl→Qy Rs}
def FG(r:Rs):Prop:=r.2.2.1.length≤3∧∀y∈r.2.2.1,y.2.2.2.1.length≤1000
theorem FG.zero:FG zR:=⟨gW _,fun y hy=>(by cases hy)⟩
structure MI(s:cu)(PS:Ze)(U:List Pl)(O:Pl→An)(L:Pl→Qy Rs)(fo:FM)(se:SM)(rs:List Rd):Prop where
 fi:FI s PS U fo se rs
 vl:∀e∈fo,e.2=((L e.1).run O).1∧(∀r∈((L e.1).run O).2,r∈rs)∧FG ((L e.1).run O).1
 si:SJ se rs
theorem MI.nil(s:cu)(PS:Ze)(U:List Pl)(O:Pl→An)(L:Pl→Qy Rs):MI s PS U O L [] [] []:=⟨FI.nil s PS U,fun e he=>(by cases he),fun r=>⟨fun h=>(by cases h),fun h=>(by cases h)⟩⟩
theorem MI.put{s:cu}{rs:List Rd}(h:MI s PS U O L fo se rs){p:Pl}(hf:FI s PS U (aY aJ p ((L p).run O).1 fo) se' (cW rs ((L p).run O).2))(hs:SJ se' (cW rs ((L p).run O).2))(hg:FG ((L p).run O).1):MI s PS U O L (aY aJ p ((L p).run O).1 fo) se' (cW rs ((L p).run O).2) where
 fi:=hf
 vl e he:=by
  rcases fj (kt:=aJ) he with rfl|he
  ·simp_all[qg]
  ·exact⟨(h.vl e he).1,fun r hr=>(qg ..).2 (Or.inl ((h.vl e he).2.1 r hr)),(h.vl e he).2.2⟩
 si:=hs
def LP(w:bz)(PS:Ze)(U:List Pl)(ix:Ix)(m:DM)(d k:Int)(O:Pl→An)(L:Pl→Qy Rs)(b:Bool)(z:Unit)(p:Pl)(rs:List Rd)(r:bz×Ix×Int×Int×Bool×DM×Unit×FM×SM×Rs×List Rd):Prop:=
 ∃fo se,r=(w,ix,d,k,b,m,z,fo,se,((L p).run O).1,cW rs ((L p).run O).2)∧MI w.1.1 PS U O L fo se (cW rs ((L p).run O).2)∧(((L p).run O).1.2.2.2.1=true→FV w.1.1 PS ((L p).run O).1.1 p.1)∧FG ((L p).run O).1
theorem Sl(X:MY w PS U ix d k O)(q0:Q0)(q1:Q1)(p:Pl)(hf:L p=jA w.1.1 m L p)(b:Bool)(z:Unit){rs:List Rd}(h:MI w.1.1 PS U O L fo se rs)(hU:p∈U)(hP:p.2.1∈PS)
 (hd:aP (.int .i64) .bool p.1 (aX m)=true→W (vF q0 q1 p w ix d k b m z fo se rs) (LP w PS U ix m d k O L b z p rs)):W (je q0 q1 p w ix d k b m z fo se rs) (LP w PS U ix m d k O L b z p rs):=by
 have hB:=hB
 unfold je
 cases hp:bT aJ p fo with
 |
  true=>
  rw[aA rfl]
  obtain⟨i,hi⟩:=rf (kt:=aJ) (vt:=eE) rfl hp
  have he:=kF hi
  obtain⟨v1,v2,v3⟩:=h.vl _ he
  have v1:aP aJ eE p fo=((L p).run O).1:=v1
  have hx:=h.fi.ok _ he
  rw[v1] at hx ⊢
  have e:=vG _ _ v2
  exact⟨_,rfl,fo,se,by rw[e],by grind,hx,v3⟩
 |
  false=>
  rw[aC (by decide)]
  cases hder:aP (.int .i64) .bool p.1 (aX m) with
  |
   true=>
   rw[aA rfl]
   refine bK.2 (py.2 ((hd hder).mono fun r hr=>?_))
   obtain⟨fo',se',rfl,h',hx,hg3⟩:=hr
   refine⟨_,rfl,?_⟩
   rw[iD]
   dsimp only
   have hl:=h'.fi.len
   have hl2:=X.wy.len
   have hg:fo'.length≤(aY aJ p ((L p).run O).1 fo').length:=G2 (kt:=aJ)
   have h1:=h'.fi.se
   have h2:=h'.fi.rs
   have e:=vG _ _ fun r hr=>(qg ((L p).run O).2 rs r).2 (Or.inr hr)
   rw[aA (show fo'.length+1≤aH by omega)]
   refine⟨_,rfl,_,_,rfl,?_,hx,hg3⟩
   have h3:MI w.1.1 PS U O L (aY aJ p ((L p).run O).1 fo') se' (cW (cW rs ((L p).run O).2) ((L p).run O).2):=h'.put (by rw[e];exact h'.fi.put hU hx (by omega) (by omega)) (by rw[e];exact h'.si) hg3
   grind
  |
   false=>
   rw[aC (by decide)]
   obtain⟨M,y,x,n,se',rs',e1,e2,e3,hl,hr⟩:=Sj X.wy p d k b m z h.fi hp hU hP
   have e1':=G4 X.wy p d k b m z fo se rs
   rw[e1'] at e1
   have eL:iz w.1.1 ix p=M:=by
    grind
   subst eL
   have eO:O p=(y,x,n):=kH ((X.ra p hP).symm.trans e2)
   have eq:(L p).run O=((x,(0,([],(y,())))),n):=by
    simp_all[jA,Qy.run]
   have e4:nC n=some n:=rfl
   obtain⟨fo2,se2,x2,rs2,er,h',hx⟩:=hr
   cases er
   have hfr:jR n se rs=some (se',rs'):=by
    simp_all[ik]
   obtain⟨s1,s2⟩:=rT n se rs se' rs' hfr h.si
   subst s1
   rw[e1',aM]
   dsimp only
   rw[iG,iG,iG,iG,e2,aM]
   dsimp only
   rw[e4,aM,e3,aM,aF]
   dsimp only
   rw[aA hl]
   have hg3:FG ((L p).run O).1:=by rw[eq];exact⟨gW _,fun y hy=>(by cases hy)⟩
   refine⟨_,rfl,_,_,by rw[eq],?_,by grind,hg3⟩
   have h3:MI w.1.1 PS U O L (aY aJ p ((L p).run O).1 fo) se' (cW rs ((L p).run O).2):=h.put (by grind) (by grind) hg3
   grind
theorem Kl{u:Ru}{l:List In}(hN:NB w.1.1)(hw:u.2.2.2.1.length≤aH)(hR:RK (cR w.1.1 u))(hL:LI w.1.1 PS u l)(hl:l.length=u.2.2.1.length)(ix:Ix)(d k:Int)(b:Bool)(m:DM)(z:Unit)(fo:FM)(se:SM)(rs:List Rd):
 oE u w ix d k b m z l fo se rs=some (Cp w.1.1 u l,w,ix,d,k,b,m,z,l,fo,se,rs):=by
 obtain⟨y,hy⟩:=To hN hw hR hL hl
 have e:Cp w.1.1 u l=y:=by unfold Cp;rw[hy (w0 w.1.1) rfl none 0 0 false none () [] [] []]
 grind
theorem IZ{u:Ru}{l:List In}(hw:u.2.2.2.2.1.length≤aH)(hR:RK (cR w.1.1 u))(hL:LI w.1.1 PS u l)(hl:l.length=u.2.2.1.length)(hf:1≤(cz w.1.1 u.2.1).length)(hf2:(cz w.1.1 u.2.1).length≤1000)(p:Int)(hp:p∈PS)(h0:(0:Int)∈PS)(hc:∀t∈u.2.2.2.2.1,t.2.2.1.2.2.2.2.1∈PS):
 FV w.1.1 PS (i6 w.1.1 u p l) u.2.1∧∀ix d k b m z fo se rs,nK u p l w ix d k b m z fo se rs=some (w,ix,d,k,b,m,z,fo,se,rs,i6 w.1.1 u p l):=by
 obtain⟨x,hx,hq,hy⟩:=NV hw hR hL hl hf hf2 p hp h0 hc
 have e:i6 w.1.1 u p l=x:=by unfold i6;rw[hy (w0 w.1.1) rfl none 0 0 false none () [] [] []];exact hq
 grind
def CQ(w:bz)(PS:Ze)(U:List Pl)(ix:Ix)(m:DM)(d k:Int)(O:Pl→An)(L:Pl→Qy Rs)(b:Bool)(z:Unit)(u:Ru)(p:Int)(l:List In)(y:(Bool×List In)×List Rd)(rs:List Rd)(r:Bool×Ru×Int×bz×Ix×Int×Int×Bool×DM×Unit×FM×SM×List In×List Rd):Prop:=
 ∃fo se,r=(y.1.1,u,p,w,ix,d,k,b,m,z,fo,se,y.1.2,cW rs y.2)∧MI w.1.1 PS U O L fo se (cW rs y.2)∧(y.1.1=false→y.1.2=l)∧(y.1.1=true→LI w.1.1 PS u y.1.2∧y.1.2.length=u.2.2.1.length)
theorem NZ(X:MX w lo PS U ix m d k O L)(q0:Q0)(q1:Q1)(p:Pl)(b:Bool)(z:Unit){rs:List Rd}(h:MI w.1.1 PS U O L fo se rs)(hP:p.2.1∈PS)(hm:aP (.int .i64) .bool p.1 (aX m)=true)
 (hq:∀u∈w.1.1.2.2.2.1,u.2.1=p.1→∀fo se rs,MI w.1.1 PS U O L fo se rs→W (q1 (u,p.2.1,[],w,ix,d,k,b,m,z,fo,se,rs,())) (CQ w PS U ix m d k O L b z u p.2.1 [] ((cM L w.1.1 m u p.2.1 u.2.2.1.length []).run O) rs)):
 W (vF q0 q1 p w ix d k b m z fo se rs) (LP w PS U ix m d k O L b z p rs):=by
 have hB:=hB
 have hr:=X.wx.cg.sw.rules
 let Z:Nat→Rs×List Rd:=fun c=>(eJ (fun u=>cM L w.1.1 m u p.2.1 u.2.2.1.length []) (fun u l=>i6 w.1.1 u p.2.1 l) w.1.1.2.2.2.1 p.1 (w.1.1.2.2.2.1.length -c) c).run O
 have eZ:(L p).run O=Z 0:=by rw[X.fix p];unfold jA;grind
 unfold vF
 refine bK.2 (W.ct (B:=fun r=>(Z 0).1=zR∧∃fo' se',r=(w,ix,d,k,b,m,z,fo',se',0,0,0,0,false,cW rs (Z 0).2)∧MI w.1.1 PS U O L fo' se' (cW rs (Z 0).2)) (Q:=LP w PS U ix m d k O L b z p rs) ?_ (fun r hr=>?_) fun r hr=>hr)
 ·refine W.mono (sA (L:=yv q0 q1) rfl (fun c(s:FM×SM×List Rd)(r:cJ _ _)=>CT (fun r=>(Z c).1=zR∧∃fo' se',r=(w,ix,d,k,b,m,z,fo',se',0,0,0,0,false,cW s.2.2 (Z c).2)∧MI w.1.1 PS U O L fo' se' (cW s.2.2 (Z c).2)) (fun r=>∃fo' se',r=(w,ix,d,k,b,m,z,fo',se',(Z c).1,cW s.2.2 (Z c).2)∧MI w.1.1 PS U O L fo' se' (cW s.2.2 (Z c).2)∧FV w.1.1 PS (Z c).1.1 p.1∧FG (Z c).1) r) w.1.1.2.2.2.1.length (fun c(s:FM×SM×List Rd)=>(w.1.1.2.2.2.1,(w.1.1.2.2.2.1.length:Int),(c:Int),w,ix,d,k,b,m,z,s.1,s.2.1,p,0,0,0,0,false,s.2.2)) (fun _ s=>MI w.1.1 PS U O L s.1 s.2.1 s.2.2) ?step ?stop _ 0 (fo,se,rs) (by omega) (by omega) h) fun r hr=> ?fin
  case fin=>
   refine CT.mono (fun _ h=>h) (fun r h=>?_) r hr
   obtain⟨fo',se',rfl,h',hx,hg⟩:=h
   unfold LP
   grind
  case step=>
   rintro rec c ⟨fo,se,rs⟩ hc hI kk
   dsimp only at hI ⊢
   have hw2:=nU c (by omega)
   have hc1:(c:Int)<(w.1.1.2.2.2.1.length:Int):=by omega
   have hmm:=dc (t:=bG) (l:=w.1.1.2.2.2.1) (dH c) hc1
   rw[cH hc1,eA c,aA hc1]
   have eq:Z c=(if(nth bG w.1.1.2.2.2.1 (c:Int)).2.1=p.1 then(cM L w.1.1 m (nth bG w.1.1.2.2.2.1 (c:Int)) p.2.1 (nth bG w.1.1.2.2.2.1 (c:Int)).2.2.1.length []).bind fun y=>if y.1=true then .ret (i6 w.1.1 (nth bG w.1.1.2.2.2.1 (c:Int)) p.2.1 y.2,((c:Int),(y.2,(true,())))) else eJ (fun u=>cM L w.1.1 m u p.2.1 u.2.2.1.length []) (fun u l=>i6 w.1.1 u p.2.1 l) w.1.1.2.2.2.1 p.1 (w.1.1.2.2.2.1.length -(c+1)) (c+1) else eJ (fun u=>cM L w.1.1 m u p.2.1 u.2.2.1.length []) (fun u l=>i6 w.1.1 u p.2.1 l) w.1.1.2.2.2.1 p.1 (w.1.1.2.2.2.1.length -(c+1)) (c+1):Qy Rs).run O:=by
    show(eJ _ _ _ _ _ _).run O=_
    rw[show w.1.1.2.2.2.1.length -c=(w.1.1.2.2.2.1.length -(c+1))+1 by omega]
    rfl
   rw[eq]
   generalize nth bG w.1.1.2.2.2.1 (c:Int)=u at hmm ⊢
   by_cases hu:u.2.1=p.1
   ·rw[aC (show¬(!decide (u.2.1=p.1))=true by simp[hu]),aA hu,Qy.run_bind]
    obtain⟨r,er,fo',se',rfl,h',y0,y1⟩:=hq u hmm hu fo se rs hI
    have ea:uC q0 q1 u p.2.1 w ix d k b m z fo se rs=(if !((cM L w.1.1 m u p.2.1 u.2.2.1.length []).run O).1.1 then(some (false,w,ix,d,k,b,m,z,fo',se',([]:List In),cW rs ((cM L w.1.1 m u p.2.1 u.2.2.1.length []).run O).2)) else(some (true,w,ix,d,k,b,m,z,fo',se',((cM L w.1.1 m u p.2.1 u.2.2.1.length []).run O).1.2,cW rs ((cM L w.1.1 m u p.2.1 u.2.2.1.length []).run O).2))):=by
     unfold uC;grind
    rw[ea]
    generalize (cM L w.1.1 m u p.2.1 u.2.2.1.length []).run O=y at h' y0 y1 ⊢
    obtain⟨⟨y,l⟩,t⟩:=y
    dsimp only at h' y0 y1 ⊢
    cases y with
    |
     false=>
     rw[aA (show(!false)=true from rfl),aM]
     dsimp only
     rw[aC (by decide),aC (by decide),hw2,dU]
     exact kk (fo',se',cW rs t) h'
    |
     true=>
     obtain⟨hLI,hlen⟩:=y1 rfl
     have hR:=X.wx.cg.tg.rules u hmm
     have hf:=X.wx.cg.tg.fields _ (dc (t:=bF) (l:=w.1.1.2.2.1) hR.h0 hR.h1)
     have hs:=(X.wx.cg.sw.rl u hmm).2.2
     obtain⟨hx,hbu⟩:=IZ (w:=w) (by omega) hR hLI hlen hf (X.wx.fl _ hR.h0 hR.h1) p.2.1 hP X.wx.zero (X.wx.consts u hmm)
     rw[aC (show¬(!true)=true by decide),aM]
     dsimp only
     rw[aA rfl,aA rfl,hbu ix d k b m z fo' se',aM]
     unfold Qy.run
     rw[fT]
     refine⟨_,rfl,fo',se',rfl,h',hu▸hx,?_,fun y hy=>?_⟩
     ·show l.length≤3
      rw[hlen];exact hR.n3
     ·obtain⟨j,hj,rfl⟩:=jZ hy
      have hj2:j<l.length:=hj
      have hF:FO (cR w.1.1 u) j:=hR.fo j (show j<u.2.2.1.length by omega)
      have:=(hLI.ok (j:Int) (dH j) (by omega)).1
      rw[cP (t:=br) hj2] at this
      rw[this]
      exact X.wx.fl _ hF.s0 hF.s1
   ·rw[aA (show(!decide (u.2.1=p.1))=true by simp[hu]),aC hu,hw2]
    exact kk (fo,se,rs) hI
  case stop=>
   rintro rec ⟨fo,se,rs⟩ hI
   dsimp only at hI ⊢
   rw[aC (by grind)]
   have e:Z w.1.1.2.2.2.1.length=(zR,[]):=by
    show(eJ _ _ _ _ (w.1.1.2.2.2.1.length -w.1.1.2.2.2.1.length) _).run O=_
    rw[Nat.sub_self];rfl
   rw[e]
   exact⟨_,rfl,rfl,fo,se,rfl,hI⟩
 ·obtain⟨e0,fo',se',rfl,h'⟩:=hr
  unfold LP
  rw[eZ,e0]
  exact⟨_,rfl,fo',se',rfl,h',fun h=>(by cases h),FG.zero⟩
variable{w:bz} {lo PS:Ze} {U:List Pl} {ix:Ix} {m:DM} {d k:Int} {O:Pl→An} {L:Pl→Qy Rs}
abbrev CH:Ru×Int×bz×Ix×Int×Int×Bool×DM×Unit×FM×SM×(List In)×(List Rd)→Option (Bool×Ru×Int×bz×Ix×Int×Int×Bool×DM×Unit×FM×SM×List In×List Rd):=fun x=>some (false,x.1,x.2.1,x.2.2.1,x.2.2.2.1,x.2.2.2.2.1,x.2.2.2.2.2.1,x.2.2.2.2.2.2.1,x.2.2.2.2.2.2.2.1,x.2.2.2.2.2.2.2.2.1,x.2.2.2.2.2.2.2.2.2.1,x.2.2.2.2.2.2.2.2.2.2.1,x.2.2.2.2.2.2.2.2.2.2.2.1,x.2.2.2.2.2.2.2.2.2.2.2.2)
theorem N0(q0:Q0)(q1:Q1)(u:Ru)(p:Int)(l:List In)(b:Bool)(z:Unit)(fo:FM)(se:SM)(rs:List Rd)(hlt:l.length<u.2.2.1.length)
 (ho:(nth aQ u.2.2.1 (l.length:Int)).2.2.2.1.2.2.1= -1∨(0≤(nth aQ u.2.2.1 (l.length:Int)).2.2.2.1.2.2.1∧(nth aQ u.2.2.1 (l.length:Int)).2.2.2.1.2.2.1<(l.length:Int)∧0≤(nth aQ u.2.2.1 (l.length:Int)).2.2.2.1.2.2.2.1∧(nth aQ u.2.2.1 (l.length:Int)).2.2.2.1.2.2.2.1<((nth br l (nth aQ u.2.2.1 (l.length:Int)).2.2.2.1.2.2.1).2.2.2.1.length:Int))):
 jv q0 q1 u p l w ix d k b m z fo se rs=aI (U:=Ru×Int×bz×Ix×Int×Int×Bool×DM×Unit×FM×SM×(List In)×(List Rd)) (nE q0 q1 (Int.toNat ((cn m (nth aQ u.2.2.1 (l.length:Int)).2.2.1:Nat):Int)+1) (rU u p l,((cn m (nth aQ u.2.2.1 (l.length:Int)).2.2.1:Nat):Int),0,u,p,w,ix,d,k,b,m,z,fo,se,nth aQ u.2.2.1 (l.length:Int),l,rs)) CH:=by
 unfold jv rU cn
 rw[aC (show¬decide ((l.length:Int)=(u.2.2.1.length:Int))=true by grind),eA _,aA (show(l.length:Int)<(u.2.2.1.length:Int) by omega)]
 generalize nth aQ u.2.2.1 (l.length:Int)=v at ho
 by_cases hv:v.2.2.2.1.2.2.1= -1
 ·rw[aC (show¬(!decide (v.2.2.2.1.2.2.1=(-1:Int)))=true by simp[hv]),aF,aA hv]
  dsimp only
  by_cases hm:aP (.int .i64) .bool v.2.2.1 (aX m)=true
  ·simp_all[aF]
  simp_all[aF]
 ·obtain⟨a1,a2,a3,a4⟩:=ho.resolve_left hv
  rw[aA (show(!decide (v.2.2.2.1.2.2.1=(-1:Int)))=true by grind),aA a1,aA a2,aA a3,aA a4,aF,aC hv]
  dsimp only
  by_cases hm:aP (.int .i64) .bool v.2.2.1 (aX m)=true
  ·simp_all[aF]
  simp_all[aF]
theorem N1(X:MX w lo PS U ix m d k O L)(q0:Q0)(q1:Q1)(u:Ru)(hu:u∈w.1.1.2.2.2.1)(p:Int)(l:List In)(b:Bool)(z:Unit){rs:List Rd}(h:MI w.1.1 PS U O L fo se rs)(hP:p∈PS)(hL:LI w.1.1 PS u l)
 (hq0:∀y:Pl,y∈U→y.2.1∈PS→l.length<u.2.2.1.length→y.1=(nth aQ u.2.2.1 (l.length:Int)).2.2.1→∀fo se rs,MI w.1.1 PS U O L fo se rs→W (q0 (y,w,ix,d,k,b,m,z,fo,se,rs,())) (LP w PS U ix m d k O L b z y rs))
 (hq1:∀l',LI w.1.1 PS u l'→l'.length=l.length+1→∀fo se rs,MI w.1.1 PS U O L fo se rs→W (q1 (u,p,l',w,ix,d,k,b,m,z,fo,se,rs,())) (CQ w PS U ix m d k O L b z u p l' ((cM L w.1.1 m u p (u.2.2.1.length -l'.length) l').run O) rs)):
 W (jv q0 q1 u p l w ix d k b m z fo se rs) (CQ w PS U ix m d k O L b z u p l ((cM L w.1.1 m u p (u.2.2.1.length -l.length) l).run O) rs):=by
 have hB:=hB
 have hR:RK (cR w.1.1 u):=X.wx.cg.tg.rules u hu
 by_cases hl:l.length=u.2.2.1.length
 ·have hdl:decide ((l.length:Int)=(u.2.2.1.length:Int))=true:=cQ (by omega)
  rw[show u.2.2.1.length -l.length=0 by omega]
  refine⟨(Cp w.1.1 u l,u,p,w,ix,d,k,b,m,z,fo,se,l,rs),?_,fo,se,rfl,h,fun _=>rfl,fun _=>⟨hL,hl⟩⟩
  unfold jv
  rw[aA hdl,Kl X.wx.cg.sw.nb (X.wx.cg.sw.rl u hu).2.1 hR hL hl];rfl
 ·have hll:=hL.len
  have hlt:l.length<u.2.2.1.length:=by omega
  have hn3:u.2.2.1.length≤3:=hR.n3
  have hF:FO (cR w.1.1 u) l.length:=hR.fo l.length hlt
  have hs0:0≤(nth aQ u.2.2.1 (l.length:Int)).2.2.1:=hF.s0
  have hs1:(nth aQ u.2.2.1 (l.length:Int)).2.2.1<(w.1.1.2.2.1.length:Int):=hF.s1
  have hpush:∀x:In,FV w.1.1 PS x (nth aQ u.2.2.1 (l.length:Int)).2.2.1→LI w.1.1 PS u (l++[x]):=fun x hx=>hL.push hlt hx
  have ho:rU u p l∈PS∧((nth aQ u.2.2.1 (l.length:Int)).2.2.2.1.2.2.1= -1∨(0≤(nth aQ u.2.2.1 (l.length:Int)).2.2.2.1.2.2.1∧(nth aQ u.2.2.1 (l.length:Int)).2.2.2.1.2.2.1<(l.length:Int)∧0≤(nth aQ u.2.2.1 (l.length:Int)).2.2.2.1.2.2.2.1∧(nth aQ u.2.2.1 (l.length:Int)).2.2.2.1.2.2.2.1<((nth br l (nth aQ u.2.2.1 (l.length:Int)).2.2.2.1.2.2.1).2.2.2.1.length:Int))):=by
   unfold rU
   by_cases hvar:(nth aQ u.2.2.1 (l.length:Int)).2.2.2.1.2.2.1= -1
   ·grind
   ·rcases hF.of with h1|h1
    ·grind
    ·obtain⟨a1,a2,a3,a4,a5⟩:=yw hL (mH _) h1
     grind
  rw[N0 q0 q1 u p l b z fo se rs hlt ho.2]
  obtain⟨ho,_⟩:=ho
  rw[show u.2.2.1.length -l.length=(u.2.2.1.length -(l.length+1))+1 by omega]
  unfold cM
  have hn4:cn m (nth aQ u.2.2.1 (l.length:Int)).2.2.1≤4:=by unfold cn;grind
  have hch:∀x:In,LI w.1.1 PS u (l++[x])→∀fo se rs,MI w.1.1 PS U O L fo se rs→W (q1 (u,p,l++[x],w,ix,d,k,b,m,z,fo,se,rs,())) (CQ w PS U ix m d k O L b z u p (l++[x]) ((cM L w.1.1 m u p (u.2.2.1.length -(l.length+1)) (l++[x])).run O) rs):=fun x hx fo se rs hI=>by
   grind
  generalize cM L w.1.1 m u p (u.2.2.1.length -(l.length+1))=ch at hch ⊢
  generalize cn m (nth aQ u.2.2.1 (l.length:Int)).2.2.1=n at hn4 ⊢
  generalize rU u p l=o at ho ⊢
  generalize nth aQ u.2.2.1 (l.length:Int)=v at hs0 hs1 hpush hq0 ⊢
  let Y:Nat→(Bool×List In)×List Rd:=fun c=>(gS L ch v.2.2.1 o l (n -c) c).run O
  show W _ (CQ w PS U ix m d k O L b z u p l (Y 0) rs)
  refine bK.2 (W.ct (W.mono (sA (L:=nE q0 q1) rfl (fun c(s:FM×SM×List Rd)(r:cJ _ _)=>CT (fun r=>(Y c).1=(false,l)∧∃fo' se',r=(u,p,w,ix,d,k,b,m,z,fo',se',l,cW s.2.2 (Y c).2)∧MI w.1.1 PS U O L fo' se' (cW s.2.2 (Y c).2)) (fun r=>(Y c).1.1=true∧∃fo' se',r=(true,u,p,w,ix,d,k,b,m,z,fo',se',(Y c).1.2,cW s.2.2 (Y c).2)∧MI w.1.1 PS U O L fo' se' (cW s.2.2 (Y c).2)∧LI w.1.1 PS u (Y c).1.2∧(Y c).1.2.length=u.2.2.1.length) r) n (fun c(s:FM×SM×List Rd)=>(o,(n:Int),(c:Int),u,p,w,ix,d,k,b,m,z,s.1,s.2.1,v,l,s.2.2)) (fun _ s=>MI w.1.1 PS U O L s.1 s.2.1 s.2.2) ?step ?stop (Int.toNat (n:Int)+1) 0 (fo,se,rs) (by omega) (by omega) h) fun r hr=>hr) (fun r hr=>?_) fun r hr=>?_)
  case step=>
   rintro rec c ⟨fo,se,rs⟩ hc hI kk
   dsimp only at hI ⊢
   have hw2:=nU c (by omega)
   have hcn:decide ((c:Int)<(n:Int))=true:=cQ (by omega)
   have hl48:∀x:In,(l.length+List.length [x])*48≤aH:=fun x=>by grind
   have eY:Y c=((L (v.2.2.1,(o,((c:Int),())))).bind fun x=>if x.2.2.2.1=true then(ch (l++[x.1])).bind fun y=>if y.1=true then .ret y else gS L ch v.2.2.1 o l (n -(c+1)) (c+1) else gS L ch v.2.2.1 o l (n -(c+1)) (c+1):Qy (Bool×List In)).run O:=by
    show(gS _ _ _ _ _ _ _).run O=_
    rw[show n -c=(n -(c+1))+1 by omega]
    rfl
   rw[eY,Qy.run_bind,aA hcn]
   obtain⟨r,er,fo',se',rfl,h',hx,_⟩:=hq0 (v.2.2.1,(o,((c:Int),()))) (X.wx.pl _ _ _ hs0 hs1 ho (dH c) (by omega)) ho hlt rfl fo se rs hI
   rw[er,aM]
   dsimp only at h' hx ⊢
   generalize (L (v.2.2.1,(o,((c:Int),())))).run O=x at h' hx ⊢
   obtain⟨x,t⟩:=x
   dsimp only at h' hx ⊢
   cases hk:x.2.2.2.1 with
   |
    false=>
    rw[aC (by decide),aC (by decide),hw2,dU]
    exact kk (fo',se',cW rs t) h'
   |
    true=>
    rw[aA rfl,aA (hl48 x.1),aA rfl,Qy.run_bind]
    obtain⟨r,er2,fo2,se2,rfl,h2,y0,y1⟩:=hch x.1 (hpush x.1 (hx hk)) fo' se' (cW rs t) h'
    rw[er2,aM]
    generalize (ch (l++[x.1])).run O=y at h2 y0 y1 ⊢
    obtain⟨⟨y,l2⟩,t2⟩:=y
    dsimp only at h2 y0 y1 ⊢
    cases y with
    |
     true=>
     rw[aA rfl,aA rfl]
     unfold Qy.run
     rw[fT]
     rw[dU]
     exact⟨_,rfl,rfl,fo2,se2,rfl,h2,y1 rfl⟩
    |
     false=>
     have e:=y0 rfl
     subst e
     have e1:bp (((l++[x.1]).length:Int) -(1:Int))=(l.length:Int):=by
      rw[kj,kD]
      rw[ig (by omega) (by omega)]
      omega
     have e3:(l.length:Int)≤((l++[x.1]).length:Int):=by rw[kj,kD];omega
     have ff:¬false=true:=by decide
     rw[aC ff,e1,eA _,aA e3,jB,Nat.sub_zero,List.take_left,hw2,aC ff,dU,dU]
     exact kk (fo2,se2,cW (cW rs t) t2) h2
  case stop=>
   rintro rec ⟨fo,se,rs⟩ hI
   dsimp only at hI ⊢
   rw[aC (by grind)]
   have e:Y n=((false,l),[]):=by
    show(gS _ _ _ _ _ (n -n) _).run O=_
    rw[Nat.sub_self];rfl
   rw[e]
   exact⟨_,rfl,rfl,fo,se,rfl,hI⟩
  ·obtain⟨e0,fo',se',rfl,h'⟩:=hr
   exact⟨_,rfl,fo',se',by rw[e0],h',fun _=>by rw[e0],fun h=>by grind⟩
  ·obtain⟨e0,fo',se',rfl,h',h2⟩:=hr
   exact⟨fo',se',by rw[e0],h',(fun h=>by grind),fun _=>h2⟩
theorem WS(X:MX w lo PS U ix m d k O L)(b:Bool)(z:Unit):∀n:Nat,
 (∀(p:Pl) fo se rs,MI w.1.1 PS U O L fo se rs→p∈U→p.2.1∈PS→5*(lo.idxOf p.1+1)≤n→W ((eW n).1 (p,w,ix,d,k,b,m,z,fo,se,rs,())) (LP w PS U ix m d k O L b z p rs))∧
 (∀u∈w.1.1.2.2.2.1,∀(q:Int) l fo se rs,MI w.1.1 PS U O L fo se rs→q∈PS→LI w.1.1 PS u l→5*lo.idxOf u.2.1+(u.2.2.1.length -l.length)+1≤n→W ((eW n).2 (u,q,l,w,ix,d,k,b,m,z,fo,se,rs,())) (CQ w PS U ix m d k O L b z u q l ((cM L w.1.1 m u q (u.2.2.1.length -l.length) l).run O) rs)):=by
 intro n
 induction n with
 |zero=>grind
 |
  succ n ih=>
  refine⟨fun p fo se rs h hU hP hn=>?_,fun u hu q l fo se rs h hP hL hn=>?_⟩
  ·exact Sl X.my (eW n).1 (eW n).2 p (X.fix p) b z h hU hP fun hm=>NZ X _ _ p b z h hP hm fun u hu hup fo se rs h=>ih.2 u hu p.2.1 [] fo se rs h hP (LI.nil _ _ _) (by
    have hn3:u.2.2.1.length≤3:=(X.wx.cg.tg.rules u hu).n3
    grind)
  ·exact N1 X (eW n).1 (eW n).2 u hu q l b z h hP hL (fun y hy hyP hlt hy1 fo se rs h=>ih.1 y fo se rs h hy hyP (by
    have hpre:=X.wx.cg.rk.pre u hu _ (dc (t:=aQ) (l:=u.2.2.1) (dH l.length) (show(l.length:Int)<(u.2.2.1.length:Int) by omega))
    grind)) fun l' hL' hl' fo se rs h=>ih.2 u hu q l' fo se rs h hP hL' (by
    have:=hL'.len
    omega)
theorem Cs(X:MX w lo PS U ix m d k O L)(b:Bool)(z:Unit)(p:Pl){rs:List Rd}(h:MI w.1.1 PS U O L fo se rs)(hU:p∈U)(hP:p.2.1∈PS):W (lV p w ix d k b m z fo se rs) (LP w PS U ix m d k O L b z p rs):=by
 have hl:=X.wx.cg.rk.len
 have hm:=X.wx.cg.tg.many
 have hi:lo.idxOf p.1≤lo.length:=List.idxOf_le_length
 exact(WS X b z iZ).1 p fo se rs h hU hP (by show _≤18446744073709551616;omega)
theorem Ct(X:MY w PS U ix d k O)(b:Bool)(z:Unit)(p:Pl)(hf:L p=jA w.1.1 m L p)(hm:¬aP (.int .i64) .bool p.1 (aX m)=true){rs:List Rd}(h:MI w.1.1 PS U O L fo se rs)(hU:p∈U)(hP:p.2.1∈PS):W (lV p w ix d k b m z fo se rs) (LP w PS U ix m d k O L b z p rs):=by
 have key:∀n,W ((eW (n+1)).1 (p,w,ix,d,k,b,m,z,fo,se,rs,())) (LP w PS U ix m d k O L b z p rs):=fun n=>Sl X (eW n).1 (eW n).2 p hf b z h hU hP fun h=>absurd h hm
 exact key 18446744073709551615
theorem Cu(X:MY w PS U ix d k O)(b:Bool)(z:Unit)(p:Pl){rs:List Rd}(h:MI w.1.1 PS U O L fo se rs)(hU:p∈U)(hP:p.2.1∈PS)(ho:W (lV p w ix d k b m z fo se rs) (LP w PS U ix m d k O L b z p rs)):W (dD p w ix d k b m z fo se rs) (LP w PS U ix m d k O L b z p rs):=by
 suffices hW:∃r,dD p w ix d k b m z fo se rs=some r by
  grind [Kc]
 have ho:=ho.imp fun r h=>h.1
 unfold dD
 cases hp:bT aJ p fo with
 |true=>grind
 |
  false=>
  rw[aC (by decide)]
  split
  ·rw[Si];exact ho
  ·obtain⟨M,y,x,n,se',rs',e1,e2,e3,hl,_⟩:=Sj X.wy p d k b m z h.fi hp hU hP
   have e4:nC n=some n:=rfl
   grind
abbrev Ky:=cL
abbrev Fa:=gK
abbrev il(a p i:Int)(c:Nat):Ky:=(a,(p,(bp ((bp ((16:Int)*i))+(c:Int)),())))
abbrev kB(a p i d:Int)(c:Nat):Rd:=(il a p i c,(d,(bp (d+(1:Int)),())))
def sg(d:Int)(r:Rd):Rd:=(r.1,(d,(bp (d+(1:Int)),())))
def I0(s:cu)(a:Int):Bool:=(f117 s a).getD false
def Ae(p i:Int):Bool:=(f118 p i).getD false
def Km(s:cu)(a c x:Int):Bool:=(f122 s a c x).getD false
def zI:In:=(0,(0,(0,([],()))))
def lg(s:cu)(V:Ky→Int×Bool)(a p i d:Int):Nat→Nat→List Int→List Rd→An
 |0,_,t,rs=>(true,(a,(p,(i,(t,())))),rs)
 |n+1,c,t,rs=>if((V (il a p i c)).2&&Km s a c (V (il a p i c)).1)=true then lg s V a p i d n (c+1) (t++[(V (il a p i c)).1]) (rs++[kB a p i d c]) else(false,zI,rs++[kB a p i d c])
def po(s:cu)(V:Ky→Int×Bool)(a p i d:Int):An:=
 if I0 s a=true∧Ae p i=true∧0≤d∧d<1024 then lg s V a p i d ((cz s a).length -1) 1 [p] [] else(false,zI,[])
theorem vH{s:cu}{V:Ky→Int×Bool}{a p i d:Int}:∀(n c:Nat)(t:Ze)(rs:List Rd),(∀r∈rs,r∈(lg s V a p i d n c t rs).2.2)∧∀r∈(lg s V a p i d n c t rs).2.2,r∈rs∨∃e,c≤e∧e<c+n∧r=kB a p i d e
 |0,_,_,_=>⟨fun _ h=>h,fun _ h=>Or.inl h⟩
 |
  n+1,c,t,rs=>by
  unfold lg
  have hl:∀r∈rs++[kB a p i d c],r∈rs∨∃e,c≤e∧e<c+(n+1)∧r=kB a p i d e:=fun r hr=>(List.mem_append.1 hr).imp id fun h=>⟨c,dO _,by omega,List.mem_singleton.1 h⟩
  split
  ·obtain⟨h1,h2⟩:=vH (s:=s) (V:=V) (a:=a) (p:=p) (i:=i) (d:=d) n (c+1) (t++[(V (il a p i c)).1]) (rs++[kB a p i d c])
   grind
  grind
variable{V':Ky→Int×Bool}{d':Int}
theorem Cv{s:cu}{V:Ky→Int×Bool}{a p i d:Int}:∀(n c:Nat)(t:Ze)(rs:List Rd),(∀r∈(lg s V a p i d n c t rs).2.2,V' r.1=V r.1)→lg s V' a p i d' n c t (rs.map (sg d'))=((lg s V a p i d n c t rs).1,(lg s V a p i d n c t rs).2.1,(lg s V a p i d n c t rs).2.2.map (sg d'))
 |0,_,_,_,_=>rfl
 |
  n+1,c,t,rs,h=>by
  have hm:kB a p i d c∈(lg s V a p i d (n+1) c t rs).2.2:=by
   unfold lg
   split
   ·simp_all[vH]
   grind
  have e:V' (il a p i c)=V (il a p i c):=h _ hm
  have em:rs.map (sg d')++[kB a p i d' c]=(rs++[kB a p i d c]).map (sg d'):=by rw[fV];rfl
  unfold lg at h ⊢
  rw[e,em]
  split
  ·rename_i hc
   rw[aA hc] at h
   exact Cv n (c+1) _ _ h
  ·rfl
theorem Ko{s:cu}{V:Ky→Int×Bool}{a p i d:Int}{r:Rd}(h:r∈(po s V a p i d).2.2):(∃c,c<(cz s a).length∧r=kB a p i d c)∧I0 s a=true∧Ae p i=true∧0≤d∧d<1024:=by
 unfold po at h
 split at h
 ·rename_i hc
  refine⟨?_,hc⟩
  rcases(vH _ _ _ _).2 r h with h|⟨e,e1,e2,e3⟩<;>grind
 grind
theorem Cw{s:cu}{V:Ky→Int×Bool}{a p i d:Int}(hd:0≤d∧d<1024↔0≤d'∧d'<1024)(h:∀r∈(po s V a p i d).2.2,V' r.1=V r.1):po s V' a p i d'=((po s V a p i d).1,(po s V a p i d).2.1,(po s V a p i d).2.2.map (sg d')):=by
 unfold po at h ⊢
 by_cases hc:I0 s a=true∧Ae p i=true∧0≤d∧d<1024
 ·rw[aA hc] at h ⊢
  rw[aA ⟨hc.1,hc.2.1,hd.1 hc.2.2⟩]
  exact Cv _ _ _ [] h
 grind
theorem Kp{s:cu}{V:Ky→Int×Bool}{a p i d:Int}:(po s V a p i d).2.2.map (sg d)=(po s V a p i d).2.2:=by
 have h:=Cw (s:=s) (V:=V) (V':=V) (a:=a) (p:=p) (i:=i) Iff.rfl (d:=d) fun _ _=>rfl
 grind
theorem I1(v:bz)(s:cu)(hN:NB s)(hl:v.2.1.length≤aH)(c:Nat)(a p i d k:Int)(rs:List Rd)(hr:(rs.length+1)*40≤aH):
 ou (c:Int) a p i d v k s rs=some ((um v.2.1 (il a p i c) d k).1,((um v.2.1 (il a p i c) d k).2&&Km s a c (um v.2.1 (il a p i c) d k).1),a,p,i,d,v,k,s,rs++[kB a p i d c]):=by
 have e:yQ v.2.1 (a,(p,(bp ((bp ((16:Int)*i))+(c:Int)),()))) d k=some (um v.2.1 (il a p i c) d k):=aA hl
 unfold ou f120
 rw[aM,aA (by grind),e,aM]
 generalize um v.2.1 (il a p i c) d k=r
 obtain⟨x,b⟩:=r
 dsimp only
 cases b with
 |false=>rfl
 |
  true=>
  obtain⟨q,hq⟩:=tj s hN a (c:Int) x
  simp_all[Km]
theorem G6(p i:Int):f118 p i=some (Ae p i)∧(Ae p i=true→0≤i∧i<4):=by
 have hs:∃z,f118 p i=some z∧(z=true→0≤i∧i<4):=by
  unfold f118
  have no:∀y:Zl,y=some false→∃z,y=some z∧(z=true→0≤i∧i<4):=fun y hy=>⟨false,hy,fun h=>(by cases h)⟩
  by_cases i0:0≤i
  ·by_cases i1:i<4
   ·have yes:∀y:Zl,(∃z,y=some z)→∃z,y=some z∧(z=true→0≤i∧i<4):=fun y ⟨z,hz⟩=>⟨z,hz,fun _=>⟨i0,i1⟩⟩
    apply yes
    refine ki ?_ fun v=>⟨v,rfl⟩
    repeat' (first|exact⟨_,rfl⟩|split)
   simp_all
  simp_all[dE]
 grind [Ae]
theorem N2(v:bz)(hN:NB v.1.1)(hR:v.1.1.2.2.2.1.length≤aH)(hF:∀a,0≤a→a<(v.1.1.2.2.1.length:Int)→(cz v.1.1 a).length≤1000)(hl:v.2.1.length≤aH)(a p i d k:Int):
 f87 v a p i d k=some (po v.1.1 (fun q=>um v.2.1 q d k) a p i d):=by
 have hB:=hB
 suffices hW:W (f87 v a p i d k) fun r=>r=po v.1.1 (fun q=>um v.2.1 q d k) a p i d by
  obtain⟨r,e,rfl⟩:=hW
  exact e
 obtain⟨b,e,hb⟩:=mA v.1.1 hR a
 have eb:I0 v.1.1 a=b:=by unfold I0;grind
 obtain⟨hz,_⟩:=G6 p i
 unfold f87 po
 rw[e,aM,eb]
 cases b with
 |false=>exact⟨_,rfl,(aC fun h=>(by cases h.1)).symm⟩
 |
  true=>
  obtain⟨a0,a1,a2⟩:=hb rfl
  rw[aC (by decide),hz,aM]
  cases Ae p i with
  |false=>exact⟨_,rfl,(aC fun h=>(by grind)).symm⟩
  |
   true=>
   rw[aC (by decide)]
   by_cases d0:d<0
   ·rw[cH d0];exact⟨_,rfl,(aC fun h=>by omega).symm⟩
   ·rw[aC (show¬decide (d<(0:Int))=true by grind)]
    by_cases d1:(1024:Int)≤d
    ·rw[cQ d1];exact⟨_,rfl,(aC fun h=>by omega).symm⟩
    ·rw[dE d1,aM,aC (by decide),aF,aA ⟨rfl,rfl,by omega,by omega⟩]
     dsimp only
     have hFa:=hF a a0 a1
     have e:(nth bF v.1.1.2.2.1 a).2.2.2.2.1=cz v.1.1 a:=rfl
     let Y:Nat→List Int→List Rd→An:=fun c t s=>lg v.1.1 (fun q=>um v.2.1 q d k) a p i d ((cz v.1.1 a).length -c) c t s
     refine bK.2 (W.ct (W.mono (sA (L:=F9) rfl (fun c(u:List Int×List Rd)(r:cJ _ _)=>CT (fun r=>∃t s,r=(a,p,i,0,0,0,t,s)∧Y c u.1 u.2=(true,(a,(p,(i,(t,())))),s)) (fun r=>r=Y c u.1 u.2) r) (cz v.1.1 a).length (fun c(u:List Int×List Rd)=>((c:Int),v,a,p,i,d,k,0,0,0,v.1.1,u.1,u.2)) (fun c u=>u.1.length≤c∧u.2.length≤c) ?step ?stop iZ 1 ([p],[]) (by show _<18446744073709551616;omega) (by omega) ⟨dO _,gW _⟩) fun r hr=>hr) (fun r hr=>?_) fun r hr=>hr)
     case step=>
      rintro rec c ⟨t,s⟩ hc ⟨ht,hs⟩ kk
      dsimp only at ht hs ⊢
      have hw2:=nU c (by omega)
      rw[e,aA a0,aA a1,cH (by omega),I1 v v.1.1 hN hl c a p i d k s (by omega),aM]
      have eY:Y c t s=if((um v.2.1 (il a p i c) d k).2&&Km v.1.1 a c (um v.2.1 (il a p i c) d k).1)=true then Y (c+1) (t++[(um v.2.1 (il a p i c) d k).1]) (s++[kB a p i d c]) else(false,zI,s++[kB a p i d c]):=by
       show lg _ _ _ _ _ _ _ _ _ _=_
       rw[show(cz v.1.1 a).length -c=((cz v.1.1 a).length -(c+1))+1 by omega]
       rfl
      rw[eY]
      dsimp only
      cases(um v.2.1 (il a p i c) d k).2&&Km v.1.1 a c (um v.2.1 (il a p i c) d k).1 with
      |false=>exact⟨_,rfl,rfl⟩
      |
       true=>
       rw[aC (by decide),aA rfl,aA (show(t.length+List.length [_])*8≤aH by grind),hw2]
       simp_all
     case stop=>
      rintro rec ⟨t,s⟩ _
      dsimp only
      rw[e,aA a0,aA a1,aC (by grind)]
      refine⟨_,rfl,t,s,rfl,?_⟩
      show lg _ _ _ _ _ _ (_ -_) _ _ _=_
      rw[Nat.sub_self]
      rfl
     ·obtain⟨t,s,rfl,h⟩:=hr
      exact⟨_,rfl,h.symm⟩
theorem Kq{g:Nat→List β}:∀n:Nat,(∀c<n,g c= [])→(List.range n).flatMap g= []
 |0,_=>rfl
 |
  n+1,h=>by
  simp_all
theorem Cy{g:Nat→List β}{c:Nat}:∀n:Nat,c<n→(∀x<n,x≠c→g x= [])→(List.range n).flatMap g=g c
 |0,h,_=>by omega
 |
  n+1,h,hx=>by
  rw[List.range_succ,List.flatMap_append,List.flatMap_cons,List.flatMap_nil,fT]
  by_cases e:c=n
  ·grind [Kq]
  ·rw[Cy n (by omega) fun x hx'=>hx x (by omega),hx n (by omega) (by omega),fT]
def rW(s:cu)(l:List Fa)(p:Pl):List Fa:=if 0≤p.1∧p.1<(s.2.2.1.length:Int) then(List.range (cz s p.1).length).flatMap fun(c:Nat)=>iR (il p.1 p.2.1 p.2.2.1 c) l else[]
theorem I2(s:cu)(l:List Fa)(ix:List (Ky×List Fa))(h:∀key,aP aJ (.slice 64 bH) key ix=iR key l)(p:Pl):iz s (some ix) p=rW s l p:=by
 have e:(fun(c:Nat)=>aP aJ (.slice 64 bH) (p.1,(p.2.1,(bp ((bp ((16:Int)*p.2.2.1))+(c:Int)),()))) (aX (some ix)))=fun(c:Nat)=>iR (il p.1 p.2.1 p.2.2.1 c) l:=funext fun c=>h _
 unfold iz rW
 rw[e]
theorem Kr{a p i:Int}(i0:0≤i)(i1:i<4){c e:Nat}(hc:c≤1000)(he:e≤1000)(h:il a p i c=il a p i e):c=e:=by
 have h1:bp ((bp ((16:Int)*i))+(c:Int))=bp ((bp ((16:Int)*i))+(e:Int)):=congrArg (fun k:Ky=>k.2.2.1) h
 grind [ig]
theorem Ks(s:cu)(l:List Fa){a p i:Int}(a0:0≤a)(a1:a<(s.2.2.1.length:Int))(hF:(cz s a).length≤1000)(i0:0≤i)(i1:i<4){c:Nat}(hc:c<(cz s a).length)(d k:Int):
 um (rW s l (a,(p,(i,())))) (il a p i c) d k=um l (il a p i c) d k:=by
 have e:(rW s l (a,(p,(i,())))).filter (lu (il a p i c) k)=l.filter (lu (il a p i c) k):=by
  have e1:rW s l (a,(p,(i,())))=(List.range (cz s a).length).flatMap fun(c:Nat)=>iR (il a p i c) l:=aA ⟨a0,a1⟩
  rw[e1,List.filter_flatMap]
  rw[Cy (c:=c) _ hc fun x hx hne=>?_]
  ·unfold iR
   rw[List.filter_filter]
   refine List.filter_congr fun x _=>?_
   simp_all[lu]
  ·unfold iR
   rw[List.filter_filter]
   refine List.filter_eq_nil_iff.2 fun y _=>?_
   intro h
   have h:=Bool.and_eq_true_iff.1 h
   have h1:=(Bool.and_eq_true_iff.1 h.1).1
   have q1:=(cK aJ y.1 (il a p i c)).1 h1
   have q2:=(cK aJ y.1 (il a p i x)).1 h.2
   exact hne (Kr i0 i1 (by omega) (by omega) (q2.symm.trans q1))
 unfold um lv
 rw[e]
def Oa(w:bz)(d k:Int)(p:Pl):An:=po w.1.1 (fun q=>um w.2.1 q d k) p.1 p.2.1 p.2.2.1 d
theorem MYo{PS:Ze}{ix:List (Ky×List Fa)}(hw:WY w PS U (some ix))(_hf:w.2.1.length≤1000)(h:∀key,aP aJ (.slice 64 bH) key ix=iR key w.2.1)(d k:Int):MY w PS U (some ix) d k (Oa w d k):=by
 have hB:=hB
 refine⟨hw,fun p hP=>?_⟩
 have hpl:(iz w.1.1 (some ix) p).length≤aH:=by
  obtain⟨L,e,hL,_⟩:=Co hw p d k true none () [] [] []
  rw[G4 hw p d k true none () [] [] []] at e
  grind
 rw[N2 (w.1,(iz w.1.1 (some ix) p,())) hw.sw.nb hw.sw.rules hw.fl hpl,I2 w.1.1 w.2.1 ix h]
 unfold Oa
 rw[Cw (d':=d) Iff.rfl (V:=fun q=>um w.2.1 q d k) (V':=fun q=>um (rW w.1.1 w.2.1 p) q d k) fun r hr=>?_,Kp]
 obtain⟨⟨c,hc,rfl⟩,h1,h2,_⟩:=Ko hr
 obtain⟨b,eb,hb⟩:=mA w.1.1 hw.sw.rules p.1
 have h1:b=true:=by grind [I0]
 obtain⟨a0,a1,_⟩:=hb h1
 obtain⟨i0,i1⟩:=(G6 _ _).2 h2
 exact Ks w.1.1 w.2.1 (p:=p.2.1) a0 a1 (hw.fl _ a0 a1) i0 i1 hc d k
theorem MXo{PS:Ze}{ix:List (Ky×List Fa)}(hw:WX w lo PS U (some ix))(hf:w.2.1.length≤1000)(h:∀key,aP aJ (.slice 64 bH) key ix=iR key w.2.1)(m:DM)(d k:Int):MX w lo PS U (some ix) m d k (Oa w d k) (LQ w.1.1 m lo):=⟨hw,MYo hw.y hf h d k,Cr hw.cg.rk.pre m⟩
variable{w:bz} {lo PS:Ze} {U:List Pl} {ix:Ix} {m:DM} {d k:Int} {O:Pl→An} {L:Pl→Qy Rs}
def rX(b:Bool)(m:DM)(a p d:Int):Bool:=b&&(aP (.int .i64) .bool a (aX m)&&(decide ((0:Int)≤p)&&(decide (p<(4096:Int))&&(decide ((0:Int)≤d)&&decide (d<(1024:Int))))))
theorem vJ(a p:Int)(w:bz)(ix:Ix)(d k:Int)(b:Bool)(m:DM)(z:Unit)(fo:FM)(se:SM)(rs:List Rd):
 rR a p w ix d k b m z fo se rs=some (rX b m a p d,w,ix,d,k,b,m,z,fo,se,rs):=by
 grind [rR,rX]
def ui(b:Bool)(m:DM)(a p d i:Int):Bool:= !aP (.int .i64) .bool a (aX m)||(decide (i=0)&&rX b m a p d)
def Ri(O:Pl→An)(L:Pl→Qy Rs)(b:Bool)(m:DM)(a p d i:Int):List Rd:=if ui b m a p d i=true then((L (a,(p,(i,())))).run O).2 else[]
def Fv(O:Pl→An)(L:Pl→Qy Rs)(b:Bool)(m:DM)(a p d i:Int):Bool×In:=if ui b m a p d i=true then(((L (a,(p,(i,())))).run O).1.2.2.2.1,((L (a,(p,(i,())))).run O).1.1) else(false,zI)
def Uu(w:bz)(p a:Int):List Pl:=((List.range 4).map fun(j:Nat)=>(a,(p,((j:Int),()))))++Uo w p (a,(p,((0:Int),())))
theorem Tq(w:bz)(p a:Int){i:Int}(h0:0≤i)(h1:i<4):(a,(p,(i,())))∈Uu w p a:=
 jY _ (List.mem_map.2 ⟨i.toNat,List.mem_range.2 (by omega),by grind⟩)
theorem EA(p a:Int)(hT:FT w.1.1)(hf:w.2.1.length≤60):(Uu w p a).length≤2200:=by
 grind [Kk,Uu]
theorem WXu(hc:CG w.1.1 lo)(hT:FT w.1.1)(hf:w.2.1.length≤60)(p a:Int)(hix:IX (Cg w p) ix):WX w lo (Cg w p) (Uu w p a) ix:=
 {WXo hc hT hf p (a,(p,((0:Int),()))) hix with
  pl:=fun b q i h0 h1 h2 h3 h4=>kE _ ((WXo hc hT hf p (a,(p,((0:Int),()))) hix).pl b q i h0 h1 h2 h3 h4)
  len:=dh (EA p a hT hf) (by decide)}
theorem WYu(hs:SA w.1.1)(hT:FT w.1.1)(hf:w.2.1.length≤60)(p a:Int)(hix:IX (Cg w p) ix):WY w (Cg w p) (Uu w p a) ix:=
 ⟨hs.sw,dh (EA p a hT hf) (by decide),fun a a0 a1=>dh (hT.fields _ (dc (t:=bF) (l:=w.1.1.2.2.1) a0 a1)) (by decide),hix⟩
theorem IXo(hf:w.2.1.length≤60)(p:Int){ix:List (Ky×List Fa)}(h:∀key,aP aJ (.slice 64 bH) key ix=iR key w.2.1):IX (Cg w p) (some ix):=fun key=>by
 have e:aP aJ (.slice 64 bH) key (aX (some ix))=iR key w.2.1:=h key
 have hle:(iR key w.2.1).length≤w.2.1.length:=tC ..
 rw[e]
 exact⟨by omega,fun f hf=>dj _ (dj _ (jY _ (List.mem_map.2 ⟨f,(List.mem_filter.1 hf).1,rfl⟩)))⟩
abbrev dM(w:bz):DM:=some (xW w.1.1.2.2.2.1)
def LL(w:bz)(lo:Ze)(r:Int):Pl→Qy Rs:=if r=0 then LQ w.1.1 (dM w) lo else jA w.1.1 (dM w) fun _=>.ret zR
theorem Cz(hs:SA w.1.1)(hT:FT w.1.1)(hf:w.2.1.length≤60){r:Int}(hcg:r=0→CG w.1.1 lo)(a0 a p:Int){ix:List (Ky×List Fa)}(h:∀key,aP aJ (.slice 64 bH) key ix=iR key w.2.1)(d k:Int)(z:Unit){i:Int}(hU:(a,(p,(i,())))∈Uu w p a0)(hl:ui (decide (r=0)) (dM w) a p d i=true)(fo:FM)(se:SM)(rs:List Rd)(hI:MI w.1.1 (Cg w p) (Uu w p a0) (Oa w d k) (LL w lo r) fo se rs):
 W (dD (a,(p,(i,()))) w (some ix) d k (decide (r=0)) (dM w) z fo se rs) (LP w (Cg w p) (Uu w p a0) (some ix) (dM w) d k (Oa w d k) (LL w lo r) (decide (r=0)) z (a,(p,(i,()))) rs):=by
 have hP:p∈Cg w p:=dj _ (cm ..)
 have hix:=IXo hf p h
 have Y:=MYo (WYu hs hT hf p a0 hix) (by omega) h d k
 refine Cu Y _ z _ hI hU hP ?_
 by_cases hm:aP (.int .i64) .bool a (aX (dM w))=true
 ·have hr:r=0:=by
   refine Classical.byContradiction fun hr=>?_
   grind [ui,rX]
  have X:=MXo (WXu (hcg hr) hT hf p a0 hix) (by omega) h (dM w) d k
  have e:LL w lo r=LQ w.1.1 (dM w) lo:=aA hr
  grind [Cs]
 ·refine Ct Y _ z _ ?_ hm hI hU hP
  unfold LL
  by_cases hr:r=0
  ·rw[aA hr];exact Cr (hcg hr).rk.pre _ _
  simp_all[jA]
variable{ch:Ru→Qy (Bool×List In)}
theorem rY{R:List Ru}{a:Int}{O:Pl→An}:∀n c,((eJ ch bd R a n c).run O).1.2.2.2.1=true∨((eJ ch bd R a n c).run O).1=zR
 |0,_=>Or.inr rfl
 |
  n+1,c=>by
  unfold eJ
  split
  ·rw[Qy.run_bind]
   dsimp only
   split
   ·exact Or.inl rfl
   ·exact rY n (c+1)
  ·exact rY n (c+1)
variable{w:bz} {lo PS:Ze} {U:List Pl} {ix:Ix} {m:DM} {d k:Int} {O:Pl→An} {L:Pl→Qy Rs}
theorem Tr(a p i:Int)(b:Bool)(z:Unit){rs:List Rd}(h:MI w.1.1 PS U O L fo se rs)
 (hk:ui b m a p d i=true→W (dD (a,(p,(i,()))) w ix d k b m z fo se rs) (LP w PS U ix m d k O L b z (a,(p,(i,()))) rs)):
 W (A1 a p i w ix d k b m z fo se rs) fun r=>∃fo' se',r=((Fv O L b m a p d i).1,w,ix,d,k,b,m,z,fo',se',(Fv O L b m a p d i).2,cW rs (Ri O L b m a p d i))∧MI w.1.1 PS U O L fo' se' (cW rs (Ri O L b m a p d i))∧((Fv O L b m a p d i).1=true→FV w.1.1 PS (Fv O L b m a p d i).2 a):=by
 unfold A1 Ri Fv
 have go:ui b m a p d i=true→W ((dD (a,(p,(i,()))) w ix d k b m z fo se rs).bind fun⟨z,aa,ab,ac,ad,ae,af,ag,ah,y,ai⟩=>some (y.2.2.2.1,z,aa,ab,ac,ad,ae,af,ag,ah,y.1,ai)) fun r=>∃fo' se',r=(((L (a,(p,(i,())))).run O).1.2.2.2.1,w,ix,d,k,b,m,z,fo',se',((L (a,(p,(i,())))).run O).1.1,cW rs ((L (a,(p,(i,())))).run O).2)∧MI w.1.1 PS U O L fo' se' (cW rs ((L (a,(p,(i,())))).run O).2)∧(((L (a,(p,(i,())))).run O).1.2.2.2.1=true→FV w.1.1 PS ((L (a,(p,(i,())))).run O).1.1 a):=fun hl=>by
  refine py.2 ((hk hl).mono fun r hr=>?_)
  obtain⟨fo',se',rfl,h',hx,_⟩:=hr
  exact⟨_,rfl,fo',se',rfl,h',hx⟩
 cases hm:aP (.int .i64) .bool a (aX m) with
 |
  false=>
  simp_all[ui,aF]
 |
  true=>
  rw[aA rfl]
  by_cases hi:i=0
  ·rw[aC (show¬(!decide (i=(0:Int)))=true by simp[hi]),vJ,aM]
   dsimp only
   have hl:ui b m a p d i=rX b m a p d:=by grind [ui]
   rw[hl] at go ⊢
   cases hb:rX b m a p d with
   |
    false=>
    rw[aA (show(!false)=true from rfl),aC (by decide),aC (by decide)]
    exact⟨_,rfl,fo,se,rfl,h,fun h=>(by cases h)⟩
   |
    true=>
    simp_all[aF]
  ·have hl:ui b m a p d i=false:=by grind [ui]
   rw[aA (show(!decide (i=(0:Int)))=true by simp[hi]),hl,aC (by decide),aC (by decide)]
   exact⟨_,rfl,fo,se,rfl,h,fun h=>(by cases h)⟩
variable{w:bz} {lo PS:Ze} {U:List Pl} {ix:Ix} {m:DM} {d k:Int} {O:Pl→An} {L:Pl→Qy Rs}
def G7(L:Pl→Qy Rs)(b:Bool)(m:DM)(a p d i:Int):Qy (Bool×In):=if ui b m a p d i=true then(L (a,(p,(i,())))).bind fun r=>.ret (r.2.2.2.1,r.1) else .ret (false,zI)
theorem Af(a:α):(Qy.ret a).run O=(a,[]):=rfl
theorem I3(b:Bool)(a p i:Int):(G7 L b m a p d i).run O=(Fv O L b m a p d i,Ri O L b m a p d i):=by
 unfold G7 Fv Ri
 by_cases h:ui b m a p d i=true
 ·simp_all[Qy.run_bind,Af]
 ·rw[aC h,aC h,aC h];rfl
def uE(L:Pl→Qy Rs)(b:Bool)(m:DM)(a p d:Int):Nat→Nat→Qy (List In)
 |0,_=>.ret []
 |n+1,c=>(G7 L b m a p d (c:Int)).bind fun y=>(uE L b m a p d n (c+1)).bind fun l=>.ret (if y.1=true then y.2::l else l)
def uF(L:Pl→Qy Rs)(b:Bool)(m:DM)(p d:Int):Nat→Nat→Qy (List In)
 |0,_=>.ret []
 |n+1,a=>(uE L b m (a:Int) p d (cn m (a:Int)) 0).bind fun l1=>(uF L b m p d n (a+1)).bind fun l2=>.ret (l1++l2)
theorem qk(b:Bool)(a p:Int)(n c:Nat):(uE L b m a p d (n+1) c).run O=((if(Fv O L b m a p d (c:Int)).1=true then(Fv O L b m a p d (c:Int)).2::((uE L b m a p d n (c+1)).run O).1 else((uE L b m a p d n (c+1)).run O).1),Ri O L b m a p d (c:Int)++((uE L b m a p d n (c+1)).run O).2):=by
 show((G7 L b m a p d (c:Int)).bind _).run O=_
 grind [Qy.run_bind,I3,Af]
theorem mB(b:Bool)(p:Int)(n a:Nat):(uF L b m p d (n+1) a).run O=(((uE L b m (a:Int) p d (cn m (a:Int)) 0).run O).1++((uF L b m p d n (a+1)).run O).1,((uE L b m (a:Int) p d (cn m (a:Int)) 0).run O).2++((uF L b m p d n (a+1)).run O).2):=by
 show((uE L b m (a:Int) p d (cn m (a:Int)) 0).bind _).run O=_
 grind [Qy.run_bind,Af]
theorem G8(hw:WY w PS U ix)(a p:Int)(a0:0≤a)(a1:a<(w.1.1.2.2.1.length:Int))(N:Int)(n:Nat)(hn:n≤4)(b:Bool)(z:Unit)
 (hk:∀i:Int,0≤i→i<4→ui b m a p d i=true→∀fo se rs,MI w.1.1 PS U O L fo se rs→W (dD (a,(p,(i,()))) w ix d k b m z fo se rs) (LP w PS U ix m d k O L b z (a,(p,(i,()))) rs))   {rs:List Rd} (h:MI w.1.1 PS U O L fo se rs) (l:List In) (hl:l.length≤1000) (hv:∀x∈l,x.2.2.2.1.length≤1000):
 W (iI (Int.toNat (n:Int)+1) (p,a,N,a,(n:Int),0,w,ix,d,k,b,m,z,fo,se,l,rs)) (CT (fun r=>∃fo' se',r=(p,N,a,w,ix,d,k,b,m,z,fo',se',l++((uE L b m a p d n 0).run O).1,cW rs ((uE L b m a p d n 0).run O).2)∧MI w.1.1 PS U O L fo' se' (cW rs ((uE L b m a p d n 0).run O).2)∧(l++((uE L b m a p d n 0).run O).1).length≤l.length+4∧∀x∈l++((uE L b m a p d n 0).run O).1,x.2.2.2.1.length≤1000) fun _=>False):=by
 have hB:=hB
 let Y:Nat→List In×List Rd:=fun c=>(uE L b m a p d (n -c) c).run O
 refine W.mono (sA (L:=iI) rfl (fun c(s:FM×SM×List In×List Rd)(r:cJ _ _)=>CT (fun r=>∃fo' se',r=(p,N,a,w,ix,d,k,b,m,z,fo',se',s.2.2.1++(Y c).1,cW s.2.2.2 (Y c).2)∧MI w.1.1 PS U O L fo' se' (cW s.2.2.2 (Y c).2)∧(s.2.2.1++(Y c).1).length≤s.2.2.1.length+(4 -c)∧∀x∈s.2.2.1++(Y c).1,x.2.2.2.1.length≤1000) (fun _=>False) r) n (fun c(s:FM×SM×List In×List Rd)=>(p,a,N,a,(n:Int),(c:Int),w,ix,d,k,b,m,z,s.1,s.2.1,s.2.2.1,s.2.2.2)) (fun c s=>MI w.1.1 PS U O L s.1 s.2.1 s.2.2.2∧s.2.2.1.length≤1000+c∧∀x∈s.2.2.1,x.2.2.2.1.length≤1000) ?step ?stop _ 0 (fo,se,l,rs) (by omega) (by omega) ⟨h,by omega,hv⟩) fun r hr=> ?fin
 case fin=>exact hr
 case step=>
  rintro rec c ⟨fo,se,l,rs⟩ hc ⟨hI,hl,hv⟩ kk
  dsimp only at hI hl hv ⊢
  have hw2:=nU c (by omega)
  have eY:Y c=((if(Fv O L b m a p d (c:Int)).1=true then(Fv O L b m a p d (c:Int)).2::(Y (c+1)).1 else(Y (c+1)).1),Ri O L b m a p d (c:Int)++(Y (c+1)).2):=by
   show(uE _ _ _ _ _ _ _ _).run O=_
   rw[show n -c=(n -(c+1))+1 by omega,qk]
  rw[cH (by omega),eY]
  refine py.2 ((Tr a p (c:Int) b z hI fun hl=>hk _ (dH c) (by omega) hl fo se rs hI).mono fun r hr=>?_)
  obtain⟨fo',se',rfl,h',hx⟩:=hr
  dsimp only
  rw[dU,hw2]
  generalize Fv O L b m a p d (c:Int)=y at hx ⊢
  obtain⟨y,x⟩:=y
  dsimp only at hx ⊢
  cases y with
  |
   true=>
   have hxl:x.2.2.2.1.length≤1000:=by rw[(hx rfl).1];exact hw.fl a a0 a1
   rw[aA rfl,aA (show(l.length+List.length [x])*48≤aH by grind),aA rfl]
   refine(kk (fo',se',l++[x],cW rs (Ri O L b m a p d (c:Int))) ⟨h',by grind,fun y hy=>?_⟩).ct (fun r hr=>?_) fun r hr=>hr
   ·grind
   ·obtain⟨fo2,se2,rfl,g1,g2,g3⟩:=hr
    dsimp only at g1 g2 g3 ⊢
    have e:l++[x]++(Y (c+1)).1=l++x::(Y (c+1)).1:=by grind
    rw[e] at g2 g3 ⊢
    simp only[kj,gM,List.length_nil] at g2 ⊢
    grind
  |
   false=>
   rw[aC (by decide),aC (by decide)]
   refine(kk (fo',se',l,cW rs (Ri O L b m a p d (c:Int))) ⟨h',by grind,hv⟩).ct (fun r hr=>?_) fun r hr=>hr
   obtain⟨fo2,se2,rfl,g1,g2,g3⟩:=hr
   dsimp only at g1 g2 g3 ⊢
   exact⟨fo2,se2,rfl,g1,by omega,g3⟩
 case stop=>
  rintro rec ⟨fo,se,l,rs⟩ ⟨hI,hl,hv⟩
  dsimp only at hI hl hv ⊢
  rw[aC (by grind)]
  have e:Y n=([],[]):=by
   show(uE _ _ _ _ _ _ (n -n) _).run O=_
   rw[Nat.sub_self];rfl
  rw[e]
  refine⟨_,rfl,fo,se,by rw[fT];rfl,hI,by grind,by grind⟩
theorem WT(hw:WY w PS U ix)(hn:w.1.1.2.2.1.length≤6)(p:Int)(b:Bool)(z:Unit)
 (hk:∀a i:Int,0≤a→a<(w.1.1.2.2.1.length:Int)→0≤i→i<4→ui b m a p d i=true→∀fo se rs,MI w.1.1 PS U O L fo se rs→W (dD (a,(p,(i,()))) w ix d k b m z fo se rs) (LP w PS U ix m d k O L b z (a,(p,(i,()))) rs)):
 W (nu p w ix d k b m z [] [] []) fun r=>∃fo' se',r=(((uF L b m p d w.1.1.2.2.1.length 0).run O).1,w,ix,d,k,b,m,z,fo',se',cW [] ((uF L b m p d w.1.1.2.2.1.length 0).run O).2)∧MI w.1.1 PS U O L fo' se' (cW [] ((uF L b m p d w.1.1.2.2.1.length 0).run O).2)∧((uF L b m p d w.1.1.2.2.1.length 0).run O).1.length≤24∧∀x∈((uF L b m p d w.1.1.2.2.1.length 0).run O).1,x.2.2.2.1.length≤1000:=by
 have hB:=hB
 let Y:Nat→List In×List Rd:=fun c=>(uF L b m p d (w.1.1.2.2.1.length -c) c).run O
 unfold nu
 refine bK.2 ((W.mono (sA (L:=sL) rfl (fun c(s:FM×SM×List In×List Rd)(r:cJ _ _)=>CT (fun r=>∃fo' se',r=(w,ix,d,k,b,m,z,fo',se',s.2.2.1++(Y c).1,cW s.2.2.2 (Y c).2)∧MI w.1.1 PS U O L fo' se' (cW s.2.2.2 (Y c).2)∧(s.2.2.1++(Y c).1).length≤s.2.2.1.length+4*(6 -c)∧∀x∈s.2.2.1++(Y c).1,x.2.2.2.1.length≤1000) (fun _=>False) r) w.1.1.2.2.1.length (fun c(s:FM×SM×List In×List Rd)=>(p,(w.1.1.2.2.1.length:Int),(c:Int),w,ix,d,k,b,m,z,s.1,s.2.1,s.2.2.1,s.2.2.2)) (fun c s=>MI w.1.1 PS U O L s.1 s.2.1 s.2.2.2∧s.2.2.1.length≤4*c∧∀x∈s.2.2.1,x.2.2.2.1.length≤1000) ?step ?stop _ 0 ([],[],[],[]) (by omega) (by omega) ⟨MI.nil _ _ _ _ _,dO _,fun x hx=>(by cases hx)⟩) fun r hr=>hr).ct (fun r hr=>?_) fun r hr=>hr.elim)
 case step=>
  rintro rec c ⟨fo,se,l,rs⟩ hc ⟨hI,hl,hv⟩ kk
  dsimp only at hI hl hv ⊢
  have hw2:=nU c (by omega)
  have eY:Y c=(((uE L b m (c:Int) p d (cn m (c:Int)) 0).run O).1++(Y (c+1)).1,((uE L b m (c:Int) p d (cn m (c:Int)) 0).run O).2++(Y (c+1)).2):=by
   show(uF _ _ _ _ _ _ _).run O=_
   rw[show w.1.1.2.2.1.length -c=(w.1.1.2.2.1.length -(c+1))+1 by omega,mB]
  have hn4:cn m (c:Int)≤4:=by unfold cn;grind
  have hit:=G8 (L:=L) (O:=O) (m:=m) (d:=d) (k:=k) hw (c:Int) p (dH c) (by omega) (w.1.1.2.2.1.length:Int) (cn m (c:Int)) hn4 b z (fun i h0 h1=>hk (c:Int) i (dH c) (by omega) h0 h1) hI l (by omega) hv
  rw[cH (by omega),eY]
  refine bK.2 ?_
  have e:aI (U:=Int×Int×Int×Int×Int×bz×Ix×Int×Int×Bool×DM×Unit×FM×SM×List In×List Rd) (if(aP (.int .i64) .bool (c:Int) (aX m))=true then(some (.brk (p,(c:Int),1,(w.1.1.2.2.1.length:Int),(c:Int),w,ix,d,k,b,m,z,fo,se,l,rs))) else(some (.brk (p,(c:Int),4,(w.1.1.2.2.1.length:Int),(c:Int),w,ix,d,k,b,m,z,fo,se,l,rs)))) (fun⟨b,c,a,d,e,f,g,h,i,j,k,l,m,n,o,p⟩=>iI (Int.toNat a+1) (b,c,d,e,a,0,f,g,h,i,j,k,l,m,n,o,p))=iI (Int.toNat ((cn m (c:Int):Nat):Int)+1) (p,(c:Int),(w.1.1.2.2.1.length:Int),(c:Int),((cn m (c:Int):Nat):Int),0,w,ix,d,k,b,m,z,fo,se,l,rs):=by
   unfold cn
   by_cases hm:aP (.int .i64) .bool (c:Int) (aX m)=true
   ·rw[aA hm,aA hm,aF];rfl
   ·rw[aC hm,aC hm,aF];rfl
  rw[e]
  refine hit.ct (fun r hr=>?_) fun r hr=>hr.elim
  obtain⟨fo',se',rfl,h',g1,g2⟩:=hr
  dsimp only
  rw[hw2]
  refine(kk (fo',se',_,_) ⟨h',by grind,g2⟩).ct (fun r hr=>?_) fun r hr=>hr
  obtain⟨fo2,se2,rfl,q1,q2,q3⟩:=hr
  dsimp only at q1 q2 q3 ⊢
  rw[vS] at q2 q3 ⊢
  rw[dU]
  grind
 case stop=>
  rintro rec ⟨fo,se,l,rs⟩ ⟨hI,hl,hv⟩
  dsimp only at hI hl hv ⊢
  rw[aC (by grind)]
  have e:Y w.1.1.2.2.1.length=([],[]):=by
   show(uF _ _ _ _ _ (w.1.1.2.2.1.length -w.1.1.2.2.1.length) _).run O=_
   rw[Nat.sub_self];rfl
  rw[e]
  refine⟨_,rfl,fo,se,by rw[fT];rfl,hI,by grind,by grind⟩
 ·obtain⟨fo',se',rfl,h',g1,g2⟩:=hr
  exact⟨_,rfl,fo',se',rfl,h',g1,g2⟩
def AQ(w:bz)(lo:Ze)(r p d:Int):Qy (List In):=uF (LL w lo r) (decide (r=0)) (dM w) p d w.1.1.2.2.1.length 0
theorem WU(hs:SA w.1.1)(hT:FT w.1.1)(hf:w.2.1.length≤60){r:Int}(er:f44 w.1=some r)(hcg:r=0→CG w.1.1 lo)(p d k:Int):
 f16 w p d k=some (((AQ w lo r p d).run (Oa w d k)).1,cW [] ((AQ w lo r p d).run (Oa w d k)).2)∧((AQ w lo r p d).run (Oa w d k)).1.length≤24∧(∀x∈((AQ w lo r p d).run (Oa w d k)).1,x.2.2.2.1.length≤1000)∧(cW [] ((AQ w lo r p d).run (Oa w d k)).2).length≤2200000:=by
 obtain⟨ix,e1,h1⟩:=Ez w (by omega) hs.sw.rules d k (decide (r=(0:Int)))
 unfold f16
 rw[er,aM,e1,aM]
 dsimp only
 have hix:=IXo hf p h1
 obtain⟨x,ex,fo,se,rfl,hI,g1,g2⟩:=WT (L:=LL w lo r) (O:=Oa w d k) (k:=k) (d:=d) (m:=dM w) (WYu hs hT hf p 0 hix) hT.dp p (decide (r=0)) () fun a i a0 a1 i0 i1 hl fo se rs hI=>Cz hs hT hf hcg 0 a p h1 d k () (kE _ (Sk p _ a0 a1 (dj _ (cm ..)) i0 i1)) hl fo se rs hI
 have hU:=EA p 0 hT hf
 have hl:=hI.fi.len
 have hr:=hI.fi.rs
 unfold AQ
 grind
theorem ab4(hs:SA w.1.1)(hT:FT w.1.1)(hf:w.2.1.length≤60){r:Int}(er:f44 w.1=some r)(hcg:r=0→CG w.1.1 lo)(a p d k:Int):
 ∃x:Rs,f12 w a p d k=some (x.2.1,x.2.2.1,x.2.2.2.1)∧x=if rX (decide (r=0)) (dM w) a p d=true then((LL w lo r (a,(p,(0,())))).run (Oa w d k)).1 else zR:=by
 obtain⟨ix,e1,h1⟩:=Ez w (by omega) hs.sw.rules d k (decide (r=(0:Int)))
 unfold f12 f37
 rw[er,aM,e1,aM]
 dsimp only
 rw[vJ,aM]
 dsimp only
 cases hi:rX (decide (r=(0:Int))) (dM w) a p d with
 |false=>exact⟨zR,rfl,rfl⟩
 |
  true=>
  rw[aC (show¬(!true)=true by decide),aA rfl]
  obtain⟨x,ex,fo,se,rfl,_,hx⟩:=Cz hs hT hf hcg a a p h1 d k () (i:=0) (Tq w p a (by omega) (by omega)) (by simp_all[ui]) [] [] [] (MI.nil _ _ _ _ _)
  grind
section
variable{w:bz} {lo PS:Ze} {U:List Pl} {ix:Ix} {m:DM} {d k:Int} {O:Pl→An} {L:Pl→Qy Rs}
theorem WV(hw:WY w PS U ix)(hn:w.1.1.2.2.1.length≤6)(p:Int)(b:Bool)(z:Unit){fo0:FM}{se0:SM}{rs0:List Rd}(h0:MI w.1.1 PS U O L fo0 se0 rs0)
 (hk:∀a i:Int,0≤a→a<(w.1.1.2.2.1.length:Int)→0≤i→i<4→ui b m a p d i=true→∀fo se rs,MI w.1.1 PS U O L fo se rs→W (dD (a,(p,(i,()))) w ix d k b m z fo se rs) (LP w PS U ix m d k O L b z (a,(p,(i,()))) rs)):
 W (nu p w ix d k b m z fo0 se0 rs0) fun r=>∃fo' se',r=(((uF L b m p d w.1.1.2.2.1.length 0).run O).1,w,ix,d,k,b,m,z,fo',se',cW rs0 ((uF L b m p d w.1.1.2.2.1.length 0).run O).2)∧MI w.1.1 PS U O L fo' se' (cW rs0 ((uF L b m p d w.1.1.2.2.1.length 0).run O).2)∧((uF L b m p d w.1.1.2.2.1.length 0).run O).1.length≤24∧∀x∈((uF L b m p d w.1.1.2.2.1.length 0).run O).1,x.2.2.2.1.length≤1000:=by
 have hB:=hB
 let Y:Nat→List In×List Rd:=fun c=>(uF L b m p d (w.1.1.2.2.1.length -c) c).run O
 unfold nu
 refine bK.2 ((W.mono (sA (L:=sL) rfl (fun c(s:FM×SM×List In×List Rd)(r:cJ _ _)=>CT (fun r=>∃fo' se',r=(w,ix,d,k,b,m,z,fo',se',s.2.2.1++(Y c).1,cW s.2.2.2 (Y c).2)∧MI w.1.1 PS U O L fo' se' (cW s.2.2.2 (Y c).2)∧(s.2.2.1++(Y c).1).length≤s.2.2.1.length+4*(6 -c)∧∀x∈s.2.2.1++(Y c).1,x.2.2.2.1.length≤1000) (fun _=>False) r) w.1.1.2.2.1.length (fun c(s:FM×SM×List In×List Rd)=>(p,(w.1.1.2.2.1.length:Int),(c:Int),w,ix,d,k,b,m,z,s.1,s.2.1,s.2.2.1,s.2.2.2)) (fun c s=>MI w.1.1 PS U O L s.1 s.2.1 s.2.2.2∧s.2.2.1.length≤4*c∧∀x∈s.2.2.1,x.2.2.2.1.length≤1000) ?step ?stop _ 0 (fo0,se0,[],rs0) (by omega) (by omega) ⟨h0,dO _,fun x hx=>(by cases hx)⟩) fun r hr=>hr).ct (fun r hr=>?_) fun r hr=>hr.elim)
 case step=>
  rintro rec c ⟨fo,se,l,rs⟩ hc ⟨hI,hl,hv⟩ kk
  dsimp only at hI hl hv ⊢
  have hw2:=nU c (by omega)
  have eY:Y c=(((uE L b m (c:Int) p d (cn m (c:Int)) 0).run O).1++(Y (c+1)).1,((uE L b m (c:Int) p d (cn m (c:Int)) 0).run O).2++(Y (c+1)).2):=by
   show(uF _ _ _ _ _ _ _).run O=_
   rw[show w.1.1.2.2.1.length -c=(w.1.1.2.2.1.length -(c+1))+1 by omega,mB]
  have hn4:cn m (c:Int)≤4:=by unfold cn;grind
  have hit:=G8 (L:=L) (O:=O) (m:=m) (d:=d) (k:=k) hw (c:Int) p (dH c) (by omega) (w.1.1.2.2.1.length:Int) (cn m (c:Int)) hn4 b z (fun i h0 h1=>hk (c:Int) i (dH c) (by omega) h0 h1) hI l (by omega) hv
  rw[cH (by omega),eY]
  refine bK.2 ?_
  have e:aI (U:=Int×Int×Int×Int×Int×bz×Ix×Int×Int×Bool×DM×Unit×FM×SM×List In×List Rd) (if(aP (.int .i64) .bool (c:Int) (aX m))=true then(some (.brk (p,(c:Int),1,(w.1.1.2.2.1.length:Int),(c:Int),w,ix,d,k,b,m,z,fo,se,l,rs))) else(some (.brk (p,(c:Int),4,(w.1.1.2.2.1.length:Int),(c:Int),w,ix,d,k,b,m,z,fo,se,l,rs)))) (fun⟨b,c,a,d,e,f,g,h,i,j,k,l,m,n,o,p⟩=>iI (Int.toNat a+1) (b,c,d,e,a,0,f,g,h,i,j,k,l,m,n,o,p))=iI (Int.toNat ((cn m (c:Int):Nat):Int)+1) (p,(c:Int),(w.1.1.2.2.1.length:Int),(c:Int),((cn m (c:Int):Nat):Int),0,w,ix,d,k,b,m,z,fo,se,l,rs):=by
   unfold cn
   by_cases hm:aP (.int .i64) .bool (c:Int) (aX m)=true
   ·rw[aA hm,aA hm,aF];rfl
   ·rw[aC hm,aC hm,aF];rfl
  rw[e]
  refine hit.ct (fun r hr=>?_) fun r hr=>hr.elim
  obtain⟨fo',se',rfl,h',g1,g2⟩:=hr
  dsimp only
  rw[hw2]
  refine(kk (fo',se',_,_) ⟨h',by grind,g2⟩).ct (fun r hr=>?_) fun r hr=>hr
  obtain⟨fo2,se2,rfl,q1,q2,q3⟩:=hr
  dsimp only at q1 q2 q3 ⊢
  rw[vS] at q2 q3 ⊢
  rw[dU]
  grind
 case stop=>
  rintro rec ⟨fo,se,l,rs⟩ ⟨hI,hl,hv⟩
  dsimp only at hI hl hv ⊢
  rw[aC (by grind)]
  have e:Y w.1.1.2.2.1.length=([],[]):=by
   show(uF _ _ _ _ _ (w.1.1.2.2.1.length -w.1.1.2.2.1.length) _).run O=_
   rw[Nat.sub_self];rfl
  rw[e]
  refine⟨_,rfl,fo,se,by rw[fT];rfl,hI,by grind,by grind⟩
 ·obtain⟨fo',se',rfl,h',g1,g2⟩:=hr
  exact⟨_,rfl,fo',se',rfl,h',g1,g2⟩
end
def tq(w:bz)(P:Ze):Ze:=P++Cg w 0
def Up(w:bz)(P:Ze):List Pl:=(List.range w.1.1.2.2.1.length).flatMap fun(i:Nat)=>(tq w P).flatMap fun(q:Int)=>(List.range 4).map fun(j:Nat)=>(((i:Int),(q,((j:Int),()))):Pl)
variable{P:Ze}
theorem Kt(hP:P.length≤4)(hT:FT w.1.1)(hf:w.2.1.length≤60):(Up w P).length≤2200:=by
 have h1:(tq w P).length≤90:=by
  grind [G5,tq]
 have h2:∀i:Nat,((tq w P).flatMap fun(q:Int)=>(List.range 4).map fun(j:Nat)=>(((i:Int),(q,((j:Int),()))):Pl)).length≤360:=fun i=>by
  have:=lf (f:=fun(q:Int)=>(List.range 4).map fun(j:Nat)=>(((i:Int),(q,((j:Int),()))):Pl)) (n:=4) (l:=tq w P) fun y _=>by grind
  omega
 have h3:=lf (f:=fun(i:Nat)=>(tq w P).flatMap fun(q:Int)=>(List.range 4).map fun(j:Nat)=>(((i:Int),(q,((j:Int),()))):Pl)) (n:=360) (l:=List.range w.1.1.2.2.1.length) fun i _=>h2 i
 rw[List.length_range] at h3
 have h4:=hT.dp
 unfold Up
 omega
theorem Sm{a q i:Int}(a0:0≤a)(a1:a<(w.1.1.2.2.1.length:Int))(hq:q∈tq w P)(i0:0≤i)(i1:i<4):(a,(q,(i,())))∈Up w P:=by
 refine List.mem_flatMap.2 ⟨a.toNat,List.mem_range.2 (by omega),List.mem_flatMap.2 ⟨q,hq,List.mem_map.2 ⟨i.toNat,List.mem_range.2 (by omega),?_⟩⟩⟩<;>grind
theorem IXp(hf:w.2.1.length≤60)(P:Ze){ix:List (Ky×List Fa)}(h:∀key,aP aJ (.slice 64 bH) key ix=iR key w.2.1):IX (tq w P) (some ix):=fun key=>
 ⟨(IXo hf 0 h key).1,fun f hf'=>kE _ ((IXo hf 0 h key).2 f hf')⟩
theorem WXp(hc:CG w.1.1 lo)(hT:FT w.1.1)(hf:w.2.1.length≤60)(hP:P.length≤4)(hix:IX (tq w P) ix):WX w lo (tq w P) (Up w P) ix where
 cg:=hc
 zero:=kE _ (cm ..)
 consts u hu t ht:=kE _ (dj _ (dj _ (kE _ (List.mem_flatMap.2 ⟨u,hu,List.mem_map.2 ⟨t,ht,rfl⟩⟩))))
 pl _ _ _ a0 a1 hq i0 i1:=Sm a0 a1 hq i0 i1
 len:=dh (Kt hP hT hf) (by decide)
 fl a a0 a1:=dh (hT.fields _ (dc (t:=bF) (l:=w.1.1.2.2.1) a0 a1)) (by decide)
 ix:=hix
theorem WYp(hs:SA w.1.1)(hT:FT w.1.1)(hf:w.2.1.length≤60)(hP:P.length≤4)(hix:IX (tq w P) ix):WY w (tq w P) (Up w P) ix:=
 ⟨hs.sw,dh (Kt hP hT hf) (by decide),fun a a0 a1=>dh (hT.fields _ (dc (t:=bF) (l:=w.1.1.2.2.1) a0 a1)) (by decide),hix⟩
theorem Ku(hs:SA w.1.1)(hT:FT w.1.1)(hf:w.2.1.length≤60)(hcg:CG w.1.1 lo)(hP:P.length≤4)(a p:Int){ix:List (Ky×List Fa)}(h:∀key,aP aJ (.slice 64 bH) key ix=iR key w.2.1)(d k:Int)(z:Unit){i:Int}(a0:0≤a)(a1:a<(w.1.1.2.2.1.length:Int))(i0:0≤i)(i1:i<4)(hp:p∈P)(fo:FM)(se:SM)(rs:List Rd)(hI:MI w.1.1 (tq w P) (Up w P) (Oa w d k) (LL w lo 0) fo se rs):
 W (dD (a,(p,(i,()))) w (some ix) d k true (dM w) z fo se rs) (LP w (tq w P) (Up w P) (some ix) (dM w) d k (Oa w d k) (LL w lo 0) true z (a,(p,(i,()))) rs):=by
 have hPp:p∈tq w P:=jY _ hp
 have hU:(a,(p,(i,())))∈Up w P:=Sm a0 a1 hPp i0 i1
 have hix:=IXp hf P h
 have Y:=MYo (WYp hs hT hf hP hix) (by omega) h d k
 have X:=MXo (WXp hcg hT hf hP hix) (by omega) h (dM w) d k
 have e:LL w lo 0=LQ w.1.1 (dM w) lo:=aA rfl
 rw[e] at hI ⊢
 refine Cu Y _ z _ hI hU hPp ?_
 by_cases hm:aP (.int .i64) .bool a (aX (dM w))=true
 ·exact Cs X _ z _ hI hU hPp
 ·exact Ct Y _ z _ (Cr hcg.rk.pre _ _) hm hI hU hPp
theorem WW(hs:SA w.1.1)(hT:FT w.1.1)(hf:w.2.1.length≤60)(hcg:CG w.1.1 lo)(hP:P.length≤4){p:Int}(hp:p∈P){ix:List (Ky×List Fa)}(h:∀key,aP aJ (.slice 64 bH) key ix=iR key w.2.1)(d k:Int){rs:List Rd}(hI:MI w.1.1 (tq w P) (Up w P) (Oa w d k) (LL w lo 0) fo se rs):
 ∃fo' se' rs',nu p w (some ix) d k true (dM w) () fo se rs=some (((AQ w lo 0 p d).run (Oa w d k)).1,w,some ix,d,k,true,dM w,(),fo',se',rs')∧MI w.1.1 (tq w P) (Up w P) (Oa w d k) (LL w lo 0) fo' se' rs':=by
 obtain⟨x,ex,fo',se',rfl,h1,_⟩:=WV (L:=LL w lo 0) (O:=Oa w d k) (k:=k) (d:=d) (m:=dM w) (WYp hs hT hf hP (IXp hf P h)) hT.dp p true () hI fun a i a0 a1 i0 i1 hl fo se rs hI=>Ku hs hT hf hcg hP a p h d k () a0 a1 i0 i1 hp fo se rs hI
 exact⟨fo',se',_,ex,h1⟩
theorem yA(x y:Ze)(hx:x.length≤aH):f73 x y=some (decide (x=y)):=by
 have hB:=hB
 unfold f73
 by_cases hl:x.length=y.length
 ·rw[aC (by simp[hl])]
  have key:=DC (L:=KX) rfl x.length (fun i=>(x,y,(x.length:Int),(i:Int))) () (fun i=>nth (.int .i64) x (i:Int)=nth (.int .i64) y (i:Int)) (fun r:Bool=>r=false∧x≠y) (by
   intro rec i hi
   dsimp only
   rw[cH (by omega),eA i,aA (by omega),eA i,aA (by omega),bk (by omega)]
   by_cases he:nth (.int .i64) x (i:Int)=nth (.int .i64) y (i:Int)
   ·grind
   ·rw[aA (by simp[he])]
    exact Or.inr ⟨false,⟨rfl,fun e=>he (by rw[e])⟩,rfl⟩) (by
   grind) (Int.toNat (x.length:Int)+1) (by omega)
  grind [List.ext_getElem,cP,aF,dB]
 ·rw[aA (by grind),dE (fun e=>hl (by rw[e]))]
theorem Kv{g:Cj}(hs:SA g.1):∃r,f44 g=some r∧(r=0→CG g.1 g.2.1):=by
 obtain⟨⟨r,b⟩,e,hm⟩:=Nu g.1 hs
 unfold f44
 rw[e,aM]
 dsimp only
 by_cases h:r=0
 ·subst h
  obtain⟨hb,hc⟩:=hm rfl
  obtain⟨q,hq⟩:=Eg b.1 g.1 hs.ss
  have hq2:=yA b.2.1 g.2.1 (dh hc.rk.len (by have:=hc.tg.many;have:=hB;omega))
  unfold f67
  rw[hq]
  by_cases e2:b.2.1=g.2.1
  ·rw[e2] at hc
   rw[cQ e2] at hq2
   cases q<;>simp only[aM,hq2]<;>simp
   exact hc
  simp_all
 simp_all
structure VP(P:Ze)(d:Int):Prop where
 inc:P.Pairwise (·<·)
 Ch:∀p∈P,0≤p∧p<4096
 day:0≤d∧d<1024
theorem VP.jf{d:Int}(h:VP P d):P.Nodup:=h.inc.imp fun h=>Int.ne_of_lt h
theorem Kw{g:Cj}(hs:SA g.1)(P:Ze)(hP:P.length≤4)(d:Int):∃v,f50 g P d=some v∧(v=true→CG g.1 g.2.1∧f44 g=some 0∧VP P d):=by
 have hB:=hB
 suffices hW:W (f50 g P d) fun v=>v=true→CG g.1 g.2.1∧f44 g=some 0∧VP P d by
  trivial
 unfold f50
 refine bK.2 (py.2 ?_)
 have h0:∃v2,(if decide ((List.length P:Int)<(1:Int)) then(some true) else(if decide ((64:Int)<(List.length P:Int)) then(some true) else(if decide (d<(0:Int)) then(some true) else(some (decide ((1024:Int)≤d))))))=some v2∧(v2=false→0≤d∧d<1024):=by
  split
  ·grind
  ·split
   ·grind
   ·split<;>grind
 obtain⟨v2,e2,hd⟩:=h0
 rw[e2]
 refine px.2 ?_
 cases v2 with
 |true=>exact⟨_,rfl,fun h=>(by cases h)⟩
 |
  false=>
  refine⟨_,rfl,?_⟩
  dsimp only
  refine bK.2 (W.ct (bW (L:=Ke) rfl (CT (fun e=>e=g∧VP P d) fun v=>v=false) P.length (fun c(lst:Int)=>(lst,P,(P.length:Int),(c:Int),g)) (fun c lst=>-1≤lst∧(P.take c).Pairwise (·<·)∧∀x∈P.take c,x≤lst∧0≤x∧x<4096) ?step ?stop (Int.toNat (P.length:Int)+1) 0 (-1) (by omega) (by omega) ⟨by omega,List.Pairwise.nil,fun x hx=>(by cases hx)⟩) (fun e he=>?_) fun v hv=>?_)
  case step=>
   rintro rec c lst hc ⟨i1,i2,i3⟩ kk
   dsimp only
   rw[cH (by omega),eA c,aA (by omega),bk (by omega),cP (t:=.int .i64) hc]
   split
   ·rw[aM,aA rfl]
    exact⟨_,rfl,rfl⟩
   ·rename_i h1
    have h1:lst<P[c]:=Int.not_le.1 fun h=>h1 (cQ h)
    rw[aM]
    split
    ·exact⟨_,rfl,rfl⟩
    grind [List.take_succ_eq_append_getElem]
  case stop=>
   rintro rec lst ⟨_,i2,i3⟩
   dsimp only
   rw[aC (by grind)]
   rw[List.take_length] at i2 i3
   exact⟨_,rfl,rfl,i2,fun p hp=>(i3 p hp).2,hd rfl⟩
  ·obtain⟨he,hv⟩:=he
   subst he
   obtain⟨r,er,h⟩:=Kv hs
   rw[er,aM]
   exact⟨_,rfl,fun h'=>⟨h (of_decide_eq_true h'),by grind,hv⟩⟩
  grind
def AL(w:bz)(lo:Ze)(p d k:Int):List In:=((AQ w lo 0 p d).run (Oa w d k)).1
def bR(x:In):Pl:=(x.1,(x.2.1,(x.2.2.1,())))
def rZ(m:List (Pl×In))(x:In):List (Pl×In):=aY aJ (bR x) x m
def mapA(w:bz)(lo:Ze)(P:Ze)(d k:Int):List (Pl×In):=P.foldl (fun acc p=>(AL w lo p d k).foldl rZ acc) []
structure MG(m:List (Pl×In))(n:Nat):Prop where
 jf:(m.map (·.1)).Nodup
 len:m.length≤n
 Ag:∀e∈m,e.2.2.2.2.1.length≤1000
theorem MG.put{m:List (Pl×In)}{n:Nat}(h:MG m n){x:In}(hx:x.2.2.2.1.length≤1000):MG (rZ m x) (n+1):=by
 refine⟨cU (kt:=aJ) rfl h.jf,dh (dw (kt:=aJ)) (by have:=h.len;omega),?_⟩
 have key:∀(m:List (Pl×In)),(∀e∈m,e.2.2.2.2.1.length≤1000)→∀e∈aY aJ (bR x) x m,e.2.2.2.2.1.length≤1000:=by
  intro m
  induction m with
  |
   nil=>
   grind [aY]
  |
   cons y m ih=>
   grind [aY]
 exact key m h.Ag
theorem MG.fold:∀(l:List In)(m:List (Pl×In))(n:Nat),MG m n→(∀x∈l,x.2.2.2.1.length≤1000)→MG (l.foldl rZ m) (n+l.length)
 |[],_,_,h,_=>h
 |
  x::l,m,n,h,hl=>by
  have:=MG.fold l (rZ m x) (n+1) (h.put (hl x (cm ..))) fun y hy=>hl y (dj _ hy)
  rw[gM]
  rwa [show n+(l.length+1)=n+1+l.length by omega]
section
variable{w:bz} {lo:Ze} {P:Ze} {d k:Int} {ix:List (Ky×List Fa)}
theorem yB{α β:Type}(f:β→α→β)(b:β)(l:List α)(c:Nat)(hc:c<l.length):(l.take (c+1)).foldl f b=f ((l.take c).foldl f b) l[c]:=by
 rw[List.take_succ_eq_append_getElem hc,List.foldl_append]
 rfl
theorem Ts(x0:Int)(x1:Int)(fo:FM)(se:SM)(rs:List Rd)(Q:Ze)(b:Bool)(m:DM)(z:Unit)(l:List In)(hl:l.length≤24)(hv:∀x∈l,x.2.2.2.1.length≤1000)(acc:List (Pl×In)){n:Nat}(hn:n≤1000)(ha:MG acc n):
 sM (Int.toNat (l.length:Int)+1) (Q,x0,x1,l,(l.length:Int),0,w,some ix,d,k,b,m,z,Q,fo,se,acc,rs)=some (.brk (Q,x0,x1,w,some ix,d,k,b,m,z,Q,fo,se,l.foldl rZ acc,rs)):=by
 have hB:=hB
 have key:=bW (L:=sM) rfl (fun r=>r= .brk (Q,x0,x1,w,some ix,d,k,b,m,z,Q,fo,se,l.foldl rZ acc,rs)) l.length (fun c(s:List (Pl×In))=>(Q,x0,x1,l,(l.length:Int),(c:Int),w,some ix,d,k,b,m,z,Q,fo,se,s,rs)) (fun c s=>s=(l.take c).foldl rZ acc∧MG s (n+c)) (by
  intro rec c s hc hs kk
  obtain⟨hs,hg⟩:=hs
  have h1:=hg.len
  dsimp only
  rw[cH (by omega),eA c,aA (by omega),cP (t:=br) hc,bk (by omega)]
  show W (Option.bind (some (bR l[c])) _) _
  rw[aM,aA (by omega)]
  exact kk _ ⟨by grind [yB,rZ],hg.put (hv _ (fU hc))⟩) (by
  intro rec s hs
  obtain⟨hs,_⟩:=hs
  dsimp only
  rw[aC (by grind)]
  refine⟨_,rfl,?_⟩<;>grind) (Int.toNat (l.length:Int)+1) 0 acc (by omega) (by omega) ⟨rfl,ha⟩
 obtain⟨r,e,hr⟩:=key
 grind
theorem Ah{w:bz}(hs:SA w.1.1)(hT:FT w.1.1)(hf:w.2.1.length≤60){lo:Ze}(hcg:CG w.1.1 lo)(er:f44 w.1=some 0)(p d k:Int):(AL w lo p d k).length≤24∧∀x∈AL w lo p d k,x.2.2.2.1.length≤1000:=by
 obtain⟨_,h1,h2,_⟩:=WU hs hT hf er (fun _=>hcg) p d k
 trivial
theorem N3{w:bz}(hs:SA w.1.1)(hT:FT w.1.1)(hf:w.2.1.length≤60){lo:Ze}(hcg:CG w.1.1 lo)(er:f44 w.1=some 0)(P:Ze)(d k:Int):MG (mapA w lo P d k) (24*P.length):=by
 have key:∀(P:Ze)(acc:List (Pl×In))(n:Nat),MG acc n→MG (P.foldl (fun acc p=>(AL w lo p d k).foldl rZ acc) acc) (n+24*P.length):=by
  intro P
  induction P with
  |nil=>grind
  |
   cons p P ih=>
   intro acc n h
   obtain⟨h1,h2⟩:=Ah hs hT hf hcg er p d k
   have h3:=MG.fold (AL w lo p d k) acc n h h2
   have h4:MG ((AL w lo p d k).foldl rZ acc) (n+24):=⟨h3.jf,by have:=h3.len;omega,h3.Ag⟩
   grind
 have:=key P [] 0 ⟨List.nodup_nil,dO _,fun e he=>(by cases he)⟩
 rwa [eM] at this
theorem Kx(hs:SA w.1.1)(hT:FT w.1.1)(hf:w.2.1.length≤60)(hcg:CG w.1.1 lo)(er:f44 w.1=some 0)(hP:P.length≤4)(h:∀key,aP aJ (.slice 64 bH) key ix=iR key w.2.1):
 ∃fo se rs,sN w (some ix) d k true (dM w) () P [] [] []=some (some (mapA w lo P d k),w,some ix,d,k,true,dM w,(),P,fo,se,rs)∧MI w.1.1 (tq w P) (Up w P) (Oa w d k) (LL w lo 0) fo se rs:=by
 have hB:=hB
 suffices hW:W (sN w (some ix) d k true (dM w) () P [] [] []) fun r=>∃fo se rs,r=(some (mapA w lo P d k),w,some ix,d,k,true,dM w,(),P,fo,se,rs)∧MI w.1.1 (tq w P) (Up w P) (Oa w d k) (LL w lo 0) fo se rs by
  obtain⟨r,e,fo,se,rs,rfl,h⟩:=hW
  grind
 unfold sN
 refine bK.2 (W.ct (bW (L:=zz) rfl (CT (fun r=>∃fo se rs,r=(w,some ix,d,k,true,dM w,(),P,fo,se,mapA w lo P d k,rs)∧MI w.1.1 (tq w P) (Up w P) (Oa w d k) (LL w lo 0) fo se rs) fun _=>False) P.length (fun c(s:FM×SM×List (Pl×In)×List Rd)=>(P,(P.length:Int),(c:Int),w,some ix,d,k,true,dM w,(),P,s.1,s.2.1,s.2.2.1,s.2.2.2)) (fun c s=>MI w.1.1 (tq w P) (Up w P) (Oa w d k) (LL w lo 0) s.1 s.2.1 s.2.2.2∧s.2.2.1=mapA w lo (P.take c) d k) ?step ?stop _ 0 ([],[],[],[]) (by omega) (by omega) ⟨MI.nil _ _ _ _ _,rfl⟩) (fun r hr=>?_) fun r hr=>hr.elim)
 case step=>
  rintro rec c ⟨fo,se,acc,rs⟩ hc ⟨hI,ha⟩ kk
  dsimp only at hI ha ⊢
  obtain⟨fo',se',rs',e1,h1⟩:=WW hs hT hf hcg hP (fU hc) h d k hI
  have hg:=N3 hs hT hf hcg er (P.take c) d k
  rw[←ha] at hg
  have hlc:(P.take c).length≤4:=by grind
  obtain⟨g1,g2⟩:=Ah hs hT hf hcg er P[c] d k
  rw[cH (by omega),eA c,aA (by omega),cP (t:=.int .i64) hc,e1,aM]
  dsimp only
  have e2:=Ts (w:=w) (ix:=ix) (d:=d) (k:=k) (P.length:Int) (c:Int) fo' se' rs' P true (dM w) () (AL w lo P[c] d k) g1 g2 acc (n:=24*(P.take c).length) (by omega) hg
  unfold AL at e2
  rw[e2,aF]
  dsimp only
  rw[bk (by omega)]
  simp_all[mapA,yB,AL]
 case stop=>
  rintro rec ⟨fo,se,acc,rs⟩ ⟨hI,ha⟩
  dsimp only at hI ha ⊢
  rw[aC (by grind)]
  rw[List.take_length] at ha
  subst ha
  exact⟨_,rfl,fo,se,rs,rfl,hI⟩
 ·obtain⟨fo,se,rs,rfl,h⟩:=hr
  exact⟨_,rfl,fo,se,rs,rfl,h⟩
theorem N4{l:Ze}{a b v:Int}(a0:0≤a)(b0:0≤b)(b1:b<(l.length:Int)):nth (.int .i64) (l.set a.toNat v) b=if b=a then v else nth (.int .i64) l b:=by
 have e:b=(b.toNat:Int):=by omega
 rw[e,cP (t:=.int .i64) (by grind),cP (t:=.int .i64) (by omega),List.getElem_set,←e]
 grind
def OV(w:bz)(o:Ze):Prop:=o.length=w.1.1.2.2.1.length∧∀j:Nat,∀h:j<w.1.2.1.length,nth (.int .i64) o w.1.2.1[j]=(j:Int)
theorem Kz(hcg:CG w.1.1 w.1.2.1)(x0 x1:Int)(fm:Zb)(d k:Int)(b:Bool)(m:DM)(z:Unit)(fo:FM)(se:SM)(rs:List Rd):
 ∃o,sO (Int.toNat (w.1.2.1.length:Int)+1) (x0,x1,w.1.2.1,(w.1.2.1.length:Int),0,P,List.replicate (Int.toNat (w.1.2.1.length:Int)) (0:Int),w,fm,d,k,b,m,z,fo,se,rs)=some (.brk (x0,x1,P,o,w,fm,d,k,b,m,z,fo,se,rs))∧OV w o:=by
 have hB:=hB
 have hN:w.1.2.1.length≤w.1.1.2.2.1.length:=hcg.rk.len
 have hM:=hcg.tg.many
 have hlen:w.1.2.1.length=w.1.1.2.2.1.length:=by
  refine Nat.le_antisymm hN ?_
  have h1:((List.range w.1.1.2.2.1.length).map fun i:Nat=>(i:Int)).length≤w.1.2.1.length:=by
   refine yx _ _ ?_ fun x hx=>?_
   ·grind [List.nodup_range]
   ·obtain⟨i,hi,rfl⟩:=List.mem_map.1 hx
    exact(hcg.rk.all _).2 ⟨dH i,by grind⟩
  grind
 have key:=bW (L:=sO) rfl (fun r=>∃o,r= .brk (x0,x1,P,o,w,fm,d,k,b,m,z,fo,se,rs)∧OV w o) w.1.2.1.length (fun c(s:Ze)=>(x0,x1,w.1.2.1,(w.1.2.1.length:Int),(c:Int),P,s,w,fm,d,k,b,m,z,fo,se,rs)) (fun c s=>s.length=w.1.2.1.length∧∀j:Nat,j<c→∀h:j<w.1.2.1.length,nth (.int .i64) s w.1.2.1[j]=(j:Int)) (by
  rintro rec c s hc ⟨hs,hj⟩ kk
  dsimp only
  have hm:=(hcg.rk.all _).1 (fU hc)
  have hlt:w.1.2.1[c]<(s.length:Int):=by grind
  rw[cH (by omega),eA c,aA (by omega),cP (t:=.int .i64) hc,aA hm.1,aA hlt,bk (by omega)]
  refine kk _ ⟨by grind,fun j hjc h=>?_⟩
  have hmj:=(hcg.rk.all _).1 (fU h)
  rw[N4 hm.1 hmj.1 (by grind)]
  by_cases e:j=c
  ·grind
  ·rw[aC (fun e2=>List.pairwise_iff_getElem.1 hcg.rk.jf j c h hc (by omega) e2),hj j (by omega) h]) (by
  rintro rec s ⟨hs,hj⟩
  dsimp only
  rw[aC (by grind)]
  exact⟨_,rfl,s,rfl,by omega,fun j h=>hj j h h⟩) (Int.toNat (w.1.2.1.length:Int)+1) 0 (List.replicate (Int.toNat (w.1.2.1.length:Int)) (0:Int)) (by omega) (by omega) ⟨by grind,fun j h=>absurd h (Nat.not_lt_zero j)⟩
 obtain⟨r,e,o,hr,ho⟩:=key
 grind
theorem lh(hs:SA w.1.1)(hT:FT w.1.1)(hf:w.2.1.length≤60)(hP:P.length≤4)(d b a:Int):
 (∀b a,fv w P d b a=none∧iM w P d b a=some false)∨
 (iM w P d b a=none∧CG w.1.1 w.1.2.1∧f44 w.1=some 0∧∃o ix fo se rs,fv w P d b a=some (true,o,w,some ix,d,a,true,dM w,(),some (mapA w w.1.2.1 P d b),some (mapA w w.1.2.1 P d a),rs,fo,se)∧OV w o∧VP P d∧MI w.1.1 (tq w P) (Up w P) (Oa w d a) (LL w w.1.2.1 0) fo se rs∧∀key,aP aJ (.slice 64 bH) key ix=iR key w.2.1):=by
 have hB:=hB
 obtain⟨v,ev,hv⟩:=Kw hs P hP d
 cases v with
 |
  false=>
  refine Or.inl fun b a=>⟨?_,?_⟩
  ·simp_all[fv]
  simp_all[iM]
 |
  true=>
  obtain⟨hcg,er0,hvp⟩:=hv rfl
  refine Or.inr ⟨?_,hcg,er0,?_⟩
  ·simp_all[iM]
  ·obtain⟨ix,e1,h1⟩:=Ez w (by omega) hs.sw.rules d a true
   have hM:=hcg.tg.many
   have hl:=hcg.rk.len
   unfold fv
   rw[ev,aM,aC (by decide),eA _,aA (mH _),aA (by omega),e1,aM]
   dsimp only
   obtain⟨o,eo,hov⟩:=Kz (P:=P) hcg d b (some ix) d a true (dM w) () [] [] []
   rw[eo,aF]
   dsimp only
   obtain⟨fo1,se1,rs1,ea,_⟩:=Kx (d:=d) (k:=b) hs hT hf hcg er0 hP h1
   obtain⟨fo2,se2,rs2,eb,hI2⟩:=Kx (d:=d) (k:=a) hs hT hf hcg er0 hP h1
   unfold Eo
   grind
end
theorem vK{s:cu}{R:List Ru}{a p:Int}{O:Pl→An}:∀n c,((eJ ch (fun u l=>i6 s u p l) R a n c).run O).1.2.2.2.1=true→bR ((eJ ch (fun u l=>i6 s u p l) R a n c).run O).1.1=(a,(p,((0:Int),())))
 |0,_,h=>by trivial
 |
  n+1,c,h=>by
  unfold eJ at h ⊢
  split at h
  ·rename_i hu
   rw[aA hu]
   rw[Qy.run_bind] at h ⊢
   dsimp only at h ⊢
   split at h
   ·rename_i hy
    rw[aA hy]
    show((nth bG R (c:Int)).2.1,(p,((0:Int),())))=_
    rw[hu]
   simp_all[vK]
  simp_all[vK]
theorem G9{s:cu}{V:Ky→Int×Bool}{a p i d:Int}:∀(n c:Nat)(t:Ze)(rs:List Rd),(lg s V a p i d n c t rs).1=true→bR (lg s V a p i d n c t rs).2.1=(a,(p,(i,())))
 |0,_,_,_,_=>rfl
 |
  n+1,c,t,rs,h=>by
  unfold lg at h ⊢
  split at h
  ·simp_all[G9]
  grind
section
variable{w:bz} {lo:Ze} {d k:Int}
theorem WZ{q:Pl}(h:(Oa w d k q).1=true):bR (Oa w d k q).2.1=q:=by
 unfold Oa po at h ⊢
 split at h
 ·simp_all[G9]
 grind
theorem Sn(hcg:CG w.1.1 lo){q:Pl}(hq:aP (.int .i64) .bool q.1 (aX (dM w))=true→q.2.2.1=0)(h:((LL w lo 0 q).run (Oa w d k)).1.2.2.2.1=true):bR ((LL w lo 0 q).run (Oa w d k)).1.1=q:=by
 have e:LL w lo 0=LQ w.1.1 (dM w) lo:=aA rfl
 rw[e,Cr hcg.rk.pre] at h ⊢
 unfold jA at h ⊢
 split at h
 ·rename_i hm
  rw[aA hm,vK _ _ h]
  grind
 ·rename_i hm
  rw[aC hm]
  exact WZ h
theorem Sq(hcg:CG w.1.1 lo){a p i:Int}(h:(Fv (Oa w d k) (LL w lo 0) true (dM w) a p d i).1=true):bR (Fv (Oa w d k) (LL w lo 0) true (dM w) a p d i).2=(a,(p,(i,()))):=by
 unfold Fv at h ⊢
 split at h
 ·rename_i hl
  rw[aA hl]
  refine Sn hcg (fun hm=>?_) h
  simp_all[ui]
 grind
theorem Ai(hcg:CG w.1.1 lo){a p:Int}:∀(n c:Nat),∀x∈((uE (LL w lo 0) true (dM w) a p d n c).run (Oa w d k)).1,x.1=a∧x.2.1=p∧(c:Int)≤x.2.2.1∧x.2.2.1<(c:Int)+(n:Int)
 |0,_,x,hx=>by cases hx
 |
  n+1,c,x,hx=>by
  rw[qk] at hx
  dsimp only at hx
  have ih:=Ai hcg (a:=a) (p:=p) n (c+1) x
  split at hx
  ·rename_i h
   rcases List.mem_cons.1 hx with e|hx
   ·have e1:=Sq hcg h
    rw[←e] at e1
    unfold bR at e1
    grind
   grind
  grind
theorem EB(hcg:CG w.1.1 lo){a p:Int}:∀(n c:Nat),(((uE (LL w lo 0) true (dM w) a p d n c).run (Oa w d k)).1.map bR).Nodup
 |0,_=>List.nodup_nil
 |
  n+1,c=>by
  rw[qk]
  dsimp only
  split
  ·rename_i h
   rw[dy,kG]
   refine⟨fun hm=>?_,EB hcg n (c+1)⟩
   obtain⟨x,hx,ex⟩:=List.mem_map.1 hm
   obtain⟨_,_,h3,_⟩:=Ai hcg n (c+1) x hx
   rw[Sq hcg h] at ex
   unfold bR at ex
   grind
  ·exact EB hcg n (c+1)
theorem EC(hcg:CG w.1.1 lo){p:Int}:∀(n a:Nat),∀x∈((uF (LL w lo 0) true (dM w) p d n a).run (Oa w d k)).1,(a:Int)≤x.1∧x.1<(a:Int)+(n:Int)∧x.2.1=p∧0≤x.2.2.1∧x.2.2.1<4
 |0,_,x,hx=>by cases hx
 |
  n+1,a,x,hx=>by
  rw[mB] at hx
  rcases List.mem_append.1 hx with hx|hx
  ·obtain⟨h1,h2,h3,h4⟩:=Ai hcg _ _ x hx
   have hn4:cn (dM w) (a:Int)≤4:=by unfold cn;grind
   grind
  ·obtain⟨h1,h2,h3⟩:=EC hcg n (a+1) x hx
   grind
theorem KA(hcg:CG w.1.1 lo){p:Int}:∀(n a:Nat),(((uF (LL w lo 0) true (dM w) p d n a).run (Oa w d k)).1.map bR).Nodup
 |0,_=>List.nodup_nil
 |
  n+1,a=>by
  rw[mB]
  dsimp only
  rw[fV,mJ]
  refine⟨EB hcg _ _,KA hcg n (a+1),fun q hq r hr e=>?_⟩
  obtain⟨x,hx,ex⟩:=List.mem_map.1 hq
  obtain⟨y,hy,ey⟩:=List.mem_map.1 hr
  have h1:=(Ai hcg _ _ x hx).1
  have h2:=(EC hcg n (a+1) y hy).1
  rw[←ex,←ey] at e
  unfold bR at e
  grind
theorem Sr(hcg:CG w.1.1 lo){p:Int}:∀x∈AL w lo p d k,0≤x.1∧x.1<(w.1.1.2.2.1.length:Int)∧x.2.1=p∧0≤x.2.2.1∧x.2.2.1<4:=fun x hx=>by
 obtain⟨h1,h2,h3⟩:=EC hcg w.1.1.2.2.1.length 0 x hx
 grind
theorem W0(hcg:CG w.1.1 lo){p:Int}:((AL w lo p d k).map bR).Nodup:=KA hcg w.1.1.2.2.1.length 0
def CL(w:bz)(lo P:Ze)(d k:Int):List In:=P.flatMap fun p=>AL w lo p d k
theorem CA(hcg:CG w.1.1 lo){P:Ze}:∀x∈CL w lo P d k,0≤x.1∧x.1<(w.1.1.2.2.1.length:Int)∧x.2.1∈P∧0≤x.2.2.1∧x.2.2.1<4:=fun x hx=>by
 obtain⟨p,hp,hx⟩:=List.mem_flatMap.1 hx
 obtain⟨h1,h2,h3,h4⟩:=Sr hcg x hx
 grind
theorem KB(hcg:CG w.1.1 lo):∀{P:Ze},P.Nodup→((CL w lo P d k).map bR).Nodup
 |[],_=>List.nodup_nil
 |
  p::P,h=>by
  obtain⟨h1,h2⟩:=List.nodup_cons.1 h
  show((AL w lo p d k++CL w lo P d k).map bR).Nodup
  rw[fV,mJ]
  refine⟨W0 hcg,KB hcg h2,fun q hq r hr e=>?_⟩
  obtain⟨x,hx,ex⟩:=List.mem_map.1 hq
  obtain⟨y,hy,ey⟩:=List.mem_map.1 hr
  have g1:=(Sr hcg x hx).2.2.1
  have g2:=(CA hcg y hy).2.2.1
  rw[←ex,←ey] at e
  unfold bR at e
  simp only[ir,and_true] at e
  rw[←e.2.1,g1] at g2
  exact h1 g2
abbrev pr(x:In):Pl×In:=(bR x,x)
theorem CB:∀(l:List In)(acc:List (Pl×In)),(acc.map (·.1)++l.map bR).Nodup→l.foldl rZ acc=acc++l.map pr
 |[],acc,_=>by rw[List.foldl_nil,List.map_nil,fT]
 |
  x::l,acc,h=>by
  have h1:bR x∉acc.map (·.1):=fun hm=>(List.nodup_append.1 h).2.2 _ hm _ (cm ..) rfl
  have e:rZ acc x=acc++[pr x]:=gq (kt:=aJ) rfl h1
  rw[List.foldl_cons,e,CB l _ (by rw[fV,vS];exact h),vS]
  rfl
theorem nL(hcg:CG w.1.1 lo){P:Ze}(hP:P.Nodup):mapA w lo P d k=(CL w lo P d k).map pr:=by
 have e:mapA w lo P d k=(CL w lo P d k).foldl rZ []:=by
  unfold mapA CL
  rw[List.foldl_flatMap]
 grind [CB,KB]
end
theorem Ha{k:Pl}{x:In}:∀{m:List (Pl×In)},(m.map (·.1)).Nodup→(k,x)∈m→aP aJ br k m=x∧bT aJ k m=true
 |[],_,h=>by cases h
 |
  e::m,hn,h=>by
  simp only[dy,kG] at hn
  rcases List.mem_cons.1 h with h|h
  ·subst h
   simp_all[cK,aP,bT]
  ·obtain⟨h1,h2⟩:=Ha hn.2 h
   have e1:¬bl aJ k e.1=true:=fun hh=>hn.1 (by
    simp_all[cK])
   simp_all[aP,bT]
theorem nM{A R:Type}{q:DecidableEq R}{xs:List A}{K:A→List A→Option R}{r:R}(hne:xs≠[])(h:∀i(hi:i<xs.length),K xs[i] (xs.eraseIdx i)=some r):wE xs K=some r:=by
 match xs,hne,h with
 |
  x::l,_,h=>
  have h0:K x l=some r:=h 0 (by simp)
  simp only[wE,h0]
  grind
theorem vL{A R:Type}{q:DecidableEq R}:∀{n:Nat}{xs:List A}{K:List A→Option R}{r:R},xs.length≤n→(∀ys:List A,ys.Perm xs→K ys=some r)→wG n xs K=some r
 |0,[],_,_,_,h=>h [] (List.Perm.refl _)
 |_+1,[],_,_,_,h=>h [] (List.Perm.refl _)
 |0,_::_,_,_,hl,_=>by grind
 |
  n+1,x::l,K,r,hl,h=>by
  unfold wG
  refine nM (by simp) fun i hi=>?_
  refine vL (by rw[List.length_eraseIdx_of_lt hi];simp at hl hi ⊢;omega) fun ys hy=>?_
  exact h _ ((hy.cons _).trans (gN (x::l) i hi).symm)
def mC(a b:Int):Int:=if a<b then-1 else if b<a then 1 else 0
theorem nN(a b:Int):f30 a b=some (mC a b):=by
 have e:∀x,f57 x=some false:=fun x=>by
  simp_all[f57]
 unfold f30 mC
 grind
theorem or3(x y z:Int):f29 [x,y,z]=some (if x≠0 then x else if y≠0 then y else z):=by
 have st:∀(n:Nat)(i:Nat)(hi:i<3),pj (n+1) ((0:Int),[x,y,z],3,(i:Int))=if[x,y,z][i]≠0 then some (.ret [x,y,z][i]) else pj n ((0:Int),[x,y,z],3,((i+1:Nat):Int)):=by
  intro n i hi
  unfold pj
  rw[aN]
  generalize aL _ n=rec
  dsimp only
  rw[cH (by omega),eA i,aA (show(i:Int)<(List.length [x,y,z]:Int) by grind),cP (t:=.int .i64) hi,bk (by omega)]
  by_cases h:[x,y,z][i]=0
  ·grind
  ·rw[aA (by grind),aA h];rfl
 have e0:=st 3 0 (by omega)
 have e1:=st 2 1 (by omega)
 have e2:=st 1 2 (by omega)
 have e3:pj 1 ((0:Int),[x,y,z],3,((3:Nat):Int))=some (.brk 0):=rfl
 grind [f29,aF,dB]
def r9(a b:Pl):Int:=if mC a.1 b.1≠0 then mC a.1 b.1 else if mC a.2.1 b.2.1≠0 then mC a.2.1 b.2.1 else mC a.2.2.1 b.2.2.1
theorem Hb(a b:Pl):f41 a b=some (r9 a b):=by
 unfold f41
 rw[nN,aM,nN,aM,nN,aM,or3]
 rfl
theorem nO(a b:Pl):r9 a b<0↔a.1<b.1∨a.1=b.1∧(a.2.1<b.2.1∨a.2.1=b.2.1∧a.2.2.1<b.2.2.1):=by
 grind [r9,mC]
theorem Tt{a b:Pl}(h1:a.1=b.1)(h2:a.2.1=b.2.1)(h3:a.2.2.1=b.2.2.1):a=b:=by
 grind
theorem Hc{a b:Pl}(h:a≠b):r9 a b<0∨r9 b a<0:=by
 rw[nO,nO]
 grind
theorem vN(a:Pl):¬r9 a a<0:=by rw[nO];omega
theorem Hd(a b c:Pl):r9 a b<0→r9 b c<0→r9 a c<0:=by rw[nO,nO,nO];omega
theorem KC{x y:In}(h:bR x=bR y)(hv:x.2.2.2.1=y.2.2.2.1):x=y:=by
 obtain⟨a1,a2,a3,a4,_⟩:=x
 simp_all[bR]
variable{B:List In}
theorem Ss(hB:(B.map bR).Nodup):∀{x y:In},x∈B→y∈B→bR x=bR y→x=y:=by
 induction B with
 |nil=>grind
 |
  cons b B ih=>
  grind
theorem Tu(B:List In):(B.map pr).map (·.1)=B.map bR:=by simp_all
theorem Aj(hB:(B.map bR).Nodup){x:In}(hx:x∈B):aP aJ br (bR x) (B.map pr)=x:=
 (Ha (m:=B.map pr) (by grind) (List.mem_map.2 ⟨x,hx,rfl⟩)).1
structure CO(B:List In):Prop where
 nd:(B.map bR).Nodup
 len:B.length≤100
 Ag:∀x∈B,x.2.2.2.1.length≤1000
theorem W1(hB:CO B){x:In}(hx:x.2.2.2.1.length≤1000):
 (if !(bT aJ (bR x) (aX (some (B.map pr)))) then(some true) else((f73 x.2.2.2.1 (((((aP aJ br (bR x) (aX (some (B.map pr)))).2).2).2).1)).bind fun y6=>some (!y6)))=some (!decide (x∈B)):=by
 have hM:=hB.len
 have hMB:aH=140737488355328:=rfl
 by_cases hm:bR x∈B.map bR
 ·obtain⟨y,hy,ey⟩:=List.mem_map.1 hm
  have h1:bT aJ (bR x) (aX (some (B.map pr)))=true:=(di (kt:=aJ) rfl).2 (by
   show bR x∈(B.map pr).map (·.1)
   grind)
  have h2:aP aJ br (bR x) (aX (some (B.map pr)))=y:=by rw[←ey];exact Aj hB.nd hy
  rw[h1,h2,aC (by decide),yA _ _ (by omega),aM]
  refine congrArg (fun b=>some (!b)) (decide_eq_decide.2 ⟨fun h=>?_,fun h=>?_⟩)
  ·rw[KC ey.symm h];exact hy
  ·rw[Ss hB.nd h hy ey.symm]
 ·have h1:¬bT aJ (bR x) (aX (some (B.map pr)))=true:=fun h=>hm (by
   have:=(di (kt:=aJ) rfl).1 h
   rw[←Tu];trivial)
  grind
def lZ(A B:List In):List In:=A.filter fun x=> !decide (x∈B)
variable{A:List In}
theorem iN{x:In}:x∈lZ A B↔x∈A∧x∉B:=by simp[lZ,List.mem_filter]
theorem CO.lZ(h:CO A)(B:List In):CO (lZ A B):=
 ⟨(List.filter_sublist.map bR).nodup h.nd,dh (tC ..) h.len,fun x hx=>h.Ag x (iN.1 hx).1⟩
theorem CO.perm(h:CO A)(hp:B.Perm A):CO B:=
 ⟨(hp.map bR).nodup_iff.2 h.nd,by rw[hp.length_eq];exact h.len,fun x hx=>h.Ag x (hp.mem_iff.1 hx)⟩
theorem Ak(h:(A.map bR).Nodup):∃ys,ys.Perm A∧∀zs,zs.Perm A→A2 zs=some ys:=by
 refine yS (f:=fun x y=>r9 (bR x) (bR y)) (fun x y=>?_) (fun x=>vN _) (fun x y z=>Hd _ _ _) ?_
 ·simp_all[f75,f52,bR,Hb]
 ·exact(List.pairwise_map.1 h).imp fun h=>Hc h
theorem gD(hA:CO A)(hB:CO B):∃Z,DU (some (A.map pr)) (some (B.map pr))=some Z∧Z.Perm (lZ A B):=by
 have hMB:aH=140737488355328:=rfl
 obtain⟨Z,hZ,hs⟩:=Ak (hA.lZ B).nd
 refine⟨Z,?_,hZ⟩
 have hl:=(hA.lZ B).len
 have key:∀(n:Nat)(es:List (Pl×In))(b:List In),es.length<n→(∀e∈es,e.1=bR e.2∧e.2.2.2.2.1.length≤1000)→(b++lZ (es.map (·.2)) B).Perm (lZ A B)→uW n (some (B.map pr),es,b)=some Z:=by
  intro n
  induction n with
  |zero=>grind
  |
   succ n ih=>
   intro es b hn hes hp
   unfold uW at ih ⊢
   rw[aN]
   generalize aL _ n=rec at ih ⊢
   dsimp only
   cases es with
   |
    nil=>
    simp_all[lZ]
   |
    cons e0 l0=>
    rw[aC (by simp)]
    refine nM (by simp) fun i hi=>?_
    obtain⟨he,hv⟩:=hes _ (fU hi)
    have hl2:((e0::l0).eraseIdx i).length<n:=by
     grind
    have ams:∀e∈(e0::l0).eraseIdx i,e.1=bR e.2∧e.2.2.2.2.1.length≤1000:=fun e h'=>hes e (List.mem_of_mem_eraseIdx h')
    have hpk:((e0::l0).map (·.2)).Perm ((e0::l0)[i].2::((e0::l0).eraseIdx i).map (·.2)):=(gN (e0::l0) i hi).map (·.2)
    have hf:=(hpk.filter (fun x=> !decide (x∈B))).append_left b
    generalize (e0::l0)[i]=e at he hv hf
    generalize (e0::l0).eraseIdx i=l at hl2 ams hf
    obtain⟨k,x⟩:=e
    dsimp only at he hv
    subst he
    have q1:=W1 hB hv
    dsimp only
    rw[q1,aM]
    by_cases hx:x∈B
    ·rw[cQ hx,aC (by decide)]
     refine ih l b hl2 ams (List.Perm.trans ?_ hp)
     refine List.Perm.trans ?_ hf.symm
     rw[vT,cQ hx]
     trivial
    ·rw[dE hx,aA (by decide)]
     have hq:((b++[x])++lZ (l.map (·.2)) B).Perm (lZ A B):=by
      refine List.Perm.trans ?_ hp
      refine List.Perm.trans ?_ hf.symm
      rw[vT,dE hx,vS]
      trivial
     have hql:=hq.length_eq
     grind
 refine key _ (A.map pr) [] (by simp[aX]) (fun e he=>?_) ?_
 ·obtain⟨x,hx,rfl⟩:=List.mem_map.1 he
  exact⟨rfl,hA.Ag x hx⟩
 ·have e:(A.map pr).map (·.2)=A:=by rw[iu];exact List.map_id' A
  grind
abbrev Sp:=S2
abbrev Ik:=WD
def kS(k:Int)(f:Bool)(x:In):Sp×Ik:=((k,bR x),(bR x,(f,())))
def sa(ST FR:List In):List (Sp×Ik):=ST.map (kS 2 false)++FR.map (kS 1 true)
theorem Al(ST FR:List In):(sa ST FR).map (·.1)=(ST.map bR).map (fun p=>(((2:Int),p):Sp))++(FR.map bR).map fun p=>(((1:Int),p):Sp):=by
 unfold sa
 rw[fV,iu,iu,iu,iu]
 rfl
theorem Am{k:Int}{l:List Pl}(h:l.Nodup):(l.map fun p=>((k,p):Sp)).Nodup:=List.Pairwise.map _ (fun _ _ hab e=>hab (Prod.mk.inj e).2) h
variable{FR:List In}
theorem KD{ST:List In}(hS:CO ST)(hF:CO FR):((sa ST FR).map (·.1)).Nodup:=by
 rw[Al,mJ]
 refine⟨Am hS.nd,Am hF.nd,fun a ha b hb e=>?_⟩<;>grind
def Kn(ST FR:List In)(s:Sp):Prop:=s.1=2∧s.2∈ST.map bR∨s.1=1∧s.2∈FR.map bR
theorem He{ST:List In}(s:Sp):bT bB s (sa ST FR)=true↔Kn ST FR s:=by
 rw[di (kt:=bB) rfl,Al,i7,List.mem_map,List.mem_map]
 constructor
 ·rintro(⟨p,hp,rfl⟩|⟨p,hp,rfl⟩)
  ·exact Or.inl ⟨rfl,hp⟩
  ·exact Or.inr ⟨rfl,hp⟩
 ·rintro(⟨h1,h2⟩|⟨h1,h2⟩)<;>grind
theorem CC{vt:Ty}(hk:kt.keyed=true){k:kt.den}{v:vt.den}:∀{m:List (kt.den×vt.den)},(m.map (·.1)).Nodup→(k,v)∈m→aP kt vt k m=v
 |[],_,h=>by cases h
 |
  e::m,hn,h=>by
  simp only[dy,kG] at hn
  have eq:∀x y,bl kt x y=true↔x=y:=cK kt
  rcases List.mem_cons.1 h with h|h
  ·subst h
   simp_all[aP]
  ·have e1:¬bl kt k e.1=true:=fun hh=>hn.1 (by
    grind)
   simp only[aP,e1]
   exact CC hk hn.2 h
theorem N5{ST:List In}(hS:CO ST)(hF:CO FR){s:Sp}(h:Kn ST FR s):aP bB dJ s (sa ST FR)=(s.2,(decide (s.1=1),())):=by
 refine CC rfl (KD hS hF) ?_
 unfold sa
 rcases h with⟨h1,h2⟩|⟨h1,h2⟩
 ·obtain⟨x,hx,ex⟩:=List.mem_map.1 h2
  refine jY _ (List.mem_map.2 ⟨x,hx,?_⟩)
  unfold kS
  rw[ex,h1]
  grind
 ·obtain⟨x,hx,ex⟩:=List.mem_map.1 h2
  refine kE _ (List.mem_map.2 ⟨x,hx,?_⟩)
  unfold kS
  grind
theorem st3{R:Type}{L:Nat→(List In)×(List In)×Int×Int×(List (Sp×Ik))→Option (cJ ((List In)×(List (Sp×Ik))) R)}(hL:L=aL fun al4 ⟨e,c,b,a,d⟩=>if decide (a<b) then(if 0≤a then(if a<(c.length:Int) then((f24 (2:Int) (nth br c a)).bind fun y4=>(f52 (nth br c a)).bind fun y5=>if d.length+1≤aH then(al4 (e,c,b,bp (a+(1:Int)),aY bB y4 (y5,(false,())) d)) else none) else none) else none) else(some (.brk (e,d)))){ST:List In}(hS:CO ST)(n:Nat)(hn:ST.length<n):
 L n (FR,ST,(ST.length:Int),0,[])=some (.brk (FR,ST.map (kS 2 false))):=by
 have hM:aH=140737488355328:=rfl
 have hl:=hS.len
 obtain⟨r,e,hr⟩:=bW hL (fun r=>r= .brk (FR,ST.map (kS 2 false))) ST.length (fun c(s:List (Sp×Ik))=>(FR,ST,(ST.length:Int),(c:Int),s)) (fun c s=>s=(ST.take c).map (kS 2 false)) (by
  intro rec c s hc hs kk
  have hsl:s.length≤1000:=by grind
  dsimp only
  rw[cH (by omega),eA c,aA (by omega),cP (t:=br) hc,bk (by omega)]
  show W (Option.bind (some ((2:Int),bR ST[c])) fun y4=>Option.bind (some (bR ST[c])) fun y5=>_) _
  rw[aM,aM,aA (by omega)]
  refine kk _ ?_
  rw[gq (kt:=bB) rfl,hs,List.take_succ_eq_append_getElem hc,fV]
  ·rfl
  ·intro hm
   rw[hs,iu] at hm
   obtain⟨x,hx,ex⟩:=List.mem_map.1 hm
   have h1:=hS.nd
   have h2:(ST.take (c+1)).map bR=(ST.take c).map bR++[bR ST[c]]:=by rw[List.take_succ_eq_append_getElem hc,fV];rfl
   have h3:((ST.take (c+1)).map bR).Nodup:=((List.take_sublist (c+1) ST).map bR).nodup h1
   rw[h2,mJ] at h3
   exact h3.2.2 _ (List.mem_map.2 ⟨x,hx,rfl⟩) _ (List.mem_singleton.2 rfl) (Prod.mk.inj ex).2) (by
  intro rec s hs
  dsimp only
  rw[aC (by grind)]
  refine⟨_,rfl,?_⟩<;>grind) n 0 [] (by omega) (by omega) rfl
 grind
theorem st8{R:Type}{L:Nat→(List In)×Int×Int×(List (Sp×Ik))→Option (cJ (List (Sp×Ik)) R)}(hL:L=aL fun rec8 ⟨c,b,a,d⟩=>if decide (a<b) then(if 0≤a then(if a<(c.length:Int) then((f24 (1:Int) (nth br c a)).bind fun y9=>(f52 (nth br c a)).bind fun y10=>if d.length+1≤aH then(rec8 (c,b,bp (a+(1:Int)),aY bB y9 (y10,(true,())) d)) else none) else none) else none) else(some (.brk d))){ST:List In}(hS:CO ST)(hF:CO FR)(n:Nat)(hn:FR.length<n):
 L n (FR,(FR.length:Int),0,ST.map (kS 2 false))=some (.brk (sa ST FR)):=by
 have hM:aH=140737488355328:=rfl
 have hl:=hS.len
 have hl2:=hF.len
 obtain⟨r,e,hr⟩:=bW hL (fun r=>r= .brk (sa ST FR)) FR.length (fun c(s:List (Sp×Ik))=>(FR,(FR.length:Int),(c:Int),s)) (fun c s=>s=sa ST (FR.take c)) (by
  intro rec c s hc hs kk
  have hsl:s.length≤2000:=by grind [sa]
  dsimp only
  rw[cH (by omega),eA c,aA (by omega),cP (t:=br) hc,bk (by omega)]
  show W (Option.bind (some ((1:Int),bR FR[c])) fun y4=>Option.bind (some (bR FR[c])) fun y5=>_) _
  rw[aM,aM,aA (by omega)]
  refine kk _ ?_
  have hnd:((sa ST (FR.take (c+1))).map (·.1)).Nodup:=KD hS ⟨((List.take_sublist _ _).map bR).nodup hF.nd,by grind,fun x hx=>hF.Ag x (List.mem_of_mem_take hx)⟩
  have hk:sa ST (FR.take (c+1))=sa ST (FR.take c)++[kS 1 true FR[c]]:=by
   grind [sa,List.take_succ_eq_append_getElem]
  rw[hk,fV,mJ] at hnd
  rw[gq (kt:=bB) rfl,hs,hk]
  ·rfl
  ·intro hm
   rw[hs] at hm
   exact hnd.2.2 _ hm _ (List.mem_singleton.2 rfl) rfl) (by
  intro rec s hs
  dsimp only
  rw[aC (by grind)]
  refine⟨_,rfl,?_⟩<;>grind) n 0 (ST.map (kS 2 false)) (by omega) (by omega) (by unfold sa;simp)
 grind
theorem KE{ST:List In}(hS:CO ST)(hF:CO FR):f58 ST FR=some (some (sa ST FR)):=by
 unfold f58
 rw[st3 (L:=M9) rfl hS _ (by omega),aF]
 dsimp only
 rw[st8 (L:=Na) rfl hS hF _ (by omega),aF]
structure FZ(z:List (Ik×Bool))(M:Ik→Prop):Prop where
 nd:(z.map (·.1)).Nodup
 mem:∀k,k∈z.map (·.1)↔M k
theorem I4(hk:kt.keyed=true){k p:kt.den}{v:α}{z:List (kt.den×α)}:p∈(aY kt k v z).map (·.1)↔p=k∨p∈z.map (·.1):=by
 rw[←di hk,←di hk]
 by_cases h:p=k
 ·simp_all[fK]
 grind [lE]
theorem sf(hk:kt.keyed=true){k p:kt.den}:∀{z:List (kt.den×α)},(z.map (·.1)).Nodup→(p∈(iX kt k z).map (·.1)↔p≠k∧p∈z.map (·.1))
 |[],_=>by simp[iX]
 |
  e::z,hn=>by
  simp only[dy,kG] at hn
  by_cases h:k=e.1
  ·have e1:bl kt k e.1=true:=(cK kt _ _).2 h
   simp only[iX,e1,cj,dy,fb]
   grind
  ·have e1:¬bl kt k e.1=true:=fun hh=>h ((cK kt _ _).1 hh)
   simp only[iX,e1,dy,fb]
   have ih:=sf hk (k:=k) (p:=p) hn.2
   grind
def MP(O ST FR:List In)(l:List Sp)(k:Ik):Prop:=if k.2.1=true then((1:Int),k.1)∈l∧k.1∈FR.map bR else k.1∈O.map bR∧¬(((2:Int),k.1)∈l∧k.1∈ST.map bR)
def tu(ST:List In)(l:List Sp)(x:In):Bool:= !(decide (((2:Int),bR x)∈l)&&decide (bR x∈ST.map bR))
theorem sh{ST:List In}{l:List Sp}{x:In}:tu ST l x=true↔¬(((2:Int),bR x)∈l∧bR x∈ST.map bR):=by
 unfold tu
 grind
def VK(O ST FR:List In)(l:List Sp):List Ik:=((O.filter (tu ST l)).map fun x=>((bR x,(false,())):Ik))++(FR.filter fun x=>decide (((1:Int),bR x)∈l)).map fun x=>(bR x,(true,()))
variable{O:List In}
theorem KF{ST:List In}{l:List Sp}(k:Ik):k∈VK O ST FR l↔MP O ST FR l k:=by
 obtain⟨p,f,_⟩:=k
 unfold VK MP
 rw[i7,List.mem_map,List.mem_map]
 cases f with
 |
  true=>
  grind
 |
  false=>
  rw[aC (by simp)]
  constructor
  ·rintro(⟨x,hx,e⟩|⟨x,_,e⟩)
   ·have e:=(Prod.mk.inj e).1
    rw[List.mem_filter] at hx
    dsimp only
    rw[←e]
    exact⟨List.mem_map.2 ⟨x,hx.1,rfl⟩,sh.1 hx.2⟩
   grind
  grind [sh]
theorem Su{f:Bool}(h:(A.map bR).Nodup):(A.map fun x=>((bR x,(f,())):Ik)).Nodup:=
 List.Pairwise.map _ (fun _ _ hab e=>hab (Prod.mk.inj e).1) (List.pairwise_map.1 h)
theorem Hf{ST:List In}(hO:CO O)(hF:CO FR)(l:List Sp):(VK O ST FR l).Nodup:=by
 unfold VK
 rw[mJ]
 refine⟨Su ((List.filter_sublist.map bR).nodup hO.nd),Su ((List.filter_sublist.map bR).nodup hF.nd),fun a ha b hb e=>?_⟩<;>grind
theorem ED{ST:List In}(hO:CO O)(hF:CO FR)(l:List Sp):(VK O ST FR l).length≤2000:=by
 have h1:=tC (tu ST l) O
 have h2:=tC (fun x=>decide (((1:Int),bR x)∈l)) FR
 have:=hO.len
 have:=hF.len
 grind [VK]
theorem FZ.perm{ST:List In}(hO:CO O)(hF:CO FR){z:List (Ik×Bool)}{l:List Sp}(h:FZ z (MP O ST FR l)):(z.map (·.1)).Perm (VK O ST FR l):=
 (List.perm_ext_iff_of_nodup h.nd (Hf hO hF l)).2 fun k=>by rw[h.mem,KF]
theorem FZ.len{ST:List In}(hO:CO O)(hF:CO FR){z:List (Ik×Bool)}{l:List Sp}(h:FZ z (MP O ST FR l)):z.length≤2000:=by
 have:=(h.perm hO hF).length_eq
 grind [ED]
theorem ql{s:Sp}{k:Int}{p:Pl}{l:List Sp}:((k,p):Sp)∈l++[s]↔((k,p):Sp)∈l∨(s.1=k∧s.2=p):=by
 grind
section
variable{O ST FR:List In} {z:List (Ik×Bool)} {l:List Sp} {s:Sp}
theorem FZ.W2(h:FZ z (MP O ST FR l))(h1:s.1=1)(h2:s.2∈FR.map bR):FZ (aY dJ (s.2,(true,())) true z) (MP O ST FR (l++[s])):=by
 refine⟨cU (kt:=dJ) rfl h.nd,fun k=>?_⟩
 rw[I4 (kt:=dJ) rfl,h.mem]
 obtain⟨p,f,_⟩:=k
 unfold MP
 grind
theorem FZ.I5(h:FZ z (MP O ST FR l))(h1:s.1=2)(h2:s.2∈ST.map bR):FZ (iX dJ (s.2,(false,())) z) (MP O ST FR (l++[s])):=by
 refine⟨((nz (kt:=dJ)).map _).nodup h.nd,fun k=>?_⟩
 rw[sf (kt:=dJ) rfl h.nd,h.mem]
 obtain⟨p,f,_⟩:=k
 unfold MP
 grind
theorem FZ.other(h:FZ z (MP O ST FR l))(hs:¬Kn ST FR s):FZ z (MP O ST FR (l++[s])):=by
 refine⟨h.nd,fun k=>?_⟩
 rw[h.mem]
 obtain⟨p,f,_⟩:=k
 unfold MP
 rw[ql,ql]
 cases f with
 |
  true=>
  simp only[cj]
  refine⟨fun h3=>⟨Or.inl h3.1,h3.2⟩,fun h3=>⟨h3.1.resolve_right fun h4=>hs (Or.inr ⟨h4.1,by rw[h4.2];exact h3.2⟩),h3.2⟩⟩<;>grind
 |
  false=>
  simp only[aC (show¬(false=true) by decide)]
  refine⟨fun h3=>⟨h3.1,fun h4=>h3.2 ⟨h4.1.resolve_right fun h5=>hs (Or.inl ⟨h5.1,by rw[h5.2];exact h4.2⟩),h4.2⟩⟩,fun h3=>⟨h3.1,fun h4=>h3.2 ⟨Or.inl h4.1,h4.2⟩⟩⟩<;>grind
end
def sl(l:List Ik):List Ik:=uu (gv dJ) l
theorem uG{l m:List Ik}(h:l.Perm m):sl l=sl m:=by
 obtain⟨h1,h2,h3⟩:=xe (t:=dJ) rfl
 exact Pv h1 h3 h fun x _ y _=>h2 x y
theorem Hg{l:List Ik}:(sl l).Perm l:=sJ
theorem N6:∀(n:Nat)(es:List (Ik×Bool))(c0:List Ik),es.length<n→c0.length+es.length≤4000→fN n (es,sl c0)=some (.brk (sl (c0++es.map (·.1)))):=by
 have hM:aH=140737488355328:=rfl
 intro n
 induction n with
 |zero=>grind
 |
  succ n ih=>
  intro es c0 hn hl
  unfold fN at ih ⊢
  rw[aN]
  generalize aL _ n=rec at ih ⊢
  dsimp only
  cases es with
  |
   nil=>
   grind
  |
   cons e0 l0=>
   rw[aC (by simp)]
   refine nM (by simp) fun i hi=>vL (dO _) fun q hq=>?_
   have hl2:((e0::l0).eraseIdx i).length=l0.length:=by grind
   have hpk:=(gN (e0::l0) i hi).map (·.1)
   rw[gM] at hl hn
   generalize (e0::l0)[i]=e at hpk
   generalize (e0::l0).eraseIdx i=m at hl2 hpk
   have hq2:=hq.trans Hg
   have hql:=hq2.length_eq
   have e1:uu (gv dJ) (q++[e.1])=sl (c0++[e.1]):=uG (hq2.append_right _)
   rw[e1,aA (by grind),ih m (c0++[e.1]) (by omega) (by grind)]
   refine congrArg (fun x=>some (cJ.brk x)) (uG ?_)<;>grind
theorem Hh{l:List Sp}{n:Nat}(h:n<l.length)(z:List (Ik×Bool))(last:List Ik):rV l (n:Int) (some z) last=some last:=by
 simp_all[rV]
theorem KG{l:List Sp}(z:List (Ik×Bool))(hz:z.length≤2000):rV l (l.length:Int) (some z) []=some (sl (z.map (·.1))):=by
 unfold rV
 rw[aC (by grind)]
 have e:=N6 (z.length+1) z [] (by omega) (by grind)
 have e:fN (List.length (aX (some z))+1) (aX (some z),[])=_:=e
 grind
section
variable{O ST FR:List In}
theorem I6(hO:CO O)(hS:CO ST)(hF:CO FR){l:List Sp}(hl:l.length≤1000):∀(n i:Nat)(z:List (Ik×Bool)),l.length -i<n→i≤l.length→FZ z (MP O ST FR (l.take i))→
 R4 l (some (sa ST FR)) n (i:Int) z (if i=l.length then sl (VK O ST FR l) else[])=some (sl (VK O ST FR l)):=by
 have hM:aH=140737488355328:=rfl
 intro n
 induction n with
 |zero=>grind
 |
  succ n ih=>
  intro i z hn hi hz
  unfold R4
  by_cases h:i<l.length
  ·have hw:=nU i (by omega)
   have hzl:=hz.len hO hF
   have et:l.take (i+1)=l.take i++[l[i]]:=List.take_succ_eq_append_getElem h
   rw[cH (by omega),eA i,aA (by omega),cP (t:=bB) h,hw,aC (show¬i=l.length by omega)]
   have go:∀z',FZ z' (MP O ST FR (l.take (i+1)))→(rV l ((i+1:Nat):Int) (some z') []).bind (fun amr=>R4 l (some (sa ST FR)) n ((i+1:Nat):Int) z' amr)=some (sl (VK O ST FR l)):=by
    intro z' hz'
    by_cases he:i+1=l.length
    ·have:=ih (i+1) z' (by omega) (by omega) hz'
     rw[aA he] at this
     have e2:rV l ((i+1:Nat):Int) (some z') []=some (sl (VK O ST FR l)):=by
      rw[he,KG z' (hz'.len hO hF)]
      rw[he,List.take_length] at hz'
      exact congrArg some (uG (hz'.perm hO hF))
     grind
    ·have:=ih (i+1) z' (by omega) (by omega) hz'
     rw[aC he] at this
     rw[Hh (by omega)]
     grind
   by_cases hk:Kn ST FR l[i]
   ·have h1:bT bB l[i] (aX (some (sa ST FR)))=true:=(He _).2 hk
    have h2:aP bB dJ l[i] (aX (some (sa ST FR)))=(l[i].2,(decide (l[i].1=1),())):=N5 hS hF hk
    rw[aA h1,h2]
    rcases hk with⟨k1,k2⟩|⟨k1,k2⟩
    ·have e:decide (l[i].1=1)=false:=dE (by omega)
     rw[e,aC (show¬(false=true) by decide)]
     exact go _ (by rw[et];exact hz.I5 k1 k2)
    ·have e:decide (l[i].1=1)=true:=cQ k1
     rw[e,aA rfl,aA (by omega)]
     exact go _ (by rw[et];exact hz.W2 k1 k2)
   ·rw[aC (show¬bT bB l[i] (aX (some (sa ST FR)))=true from fun h'=>hk ((He _).1 h'))]
    exact go _ (by rw[et];exact hz.other hk)
  grind
theorem KH(hO:CO O)(hS:CO ST)(hF:CO FR){l:List Sp}(hl:l.length≤1000):∀(n:Nat)(es:List (Pl×In))(z:List (Ik×Bool)),es.length<n→(z.map (·.1)++es.map fun e=>((e.1,(false,())):Ik)).Perm (VK O ST FR [])→
 Vj l (some (sa ST FR)) n z es []=some (sl (VK O ST FR l)):=by
 have hM:aH=140737488355328:=rfl
 have hv:=ED (ST:=ST) hO hF []
 intro n
 induction n with
 |zero=>grind
 |
  succ n ih=>
  intro es z hn hp
  unfold Vj
  cases es with
  |
   nil=>
   rw[aA (show List.isEmpty ([]:List (Pl×In))=true from rfl)]
   rw[List.map_nil,fT] at hp
   have hz:FZ z (MP O ST FR []):=⟨hp.nodup_iff.2 (Hf hO hF []),fun k=>by rw[hp.mem_iff,KF]⟩
   have key:=I6 hO hS hF hl (Int.toNat (l.length:Int)+1) 0 z (by omega) (by omega) (by grind)
   by_cases he:0=l.length
   ·have hl0:l= []:=List.length_eq_zero_iff.1 he.symm
    rw[aA he] at key
    have e2:rV l (0:Int) (some z) []=some (sl (VK O ST FR l)):=by
     have:=KG (l:=l) z (hz.len hO hF)
     rw[←he] at this
     rw[show(0:Int)=((0:Nat):Int) from rfl,this,hl0]
     exact congrArg some (uG (hz.perm hO hF))
    grind
   ·rw[aC he] at key
    grind [Hh]
  |
   cons e0 l0=>
   rw[aC (by simp)]
   refine nM (by simp) fun i hi=>?_
   have hl2:((e0::l0).eraseIdx i).length=l0.length:=by grind
   have hpk:=(gN (e0::l0) i hi).map fun e=>((e.1,(false,())):Ik)
   rw[gM] at hn
   generalize (e0::l0)[i]=e at hpk
   generalize (e0::l0).eraseIdx i=m at hl2 hpk
   have hp2:=((hpk.append_left (z.map (·.1))).symm).trans hp
   have hzl:z.length≤2000:=by
    have:=hp.length_eq
    grind
   rw[aA (by omega)]
   have hnew:aY dJ (e.1,(false,())) true z=z++[((e.1,(false,())),true)]:=gq (kt:=dJ) rfl fun hm=>by
    have:=hp2.nodup_iff.2 (Hf hO hF [])
    grind
   grind
theorem I7(x y:Ik):f40 x y=some (if x.1=y.1∧x.2.1≠y.2.1 then(if y.2.1=true then-1 else 1) else r9 x.1 y.1):=by
 unfold f40
 rw[Hb]
 by_cases h:x.1=y.1
 ·rw[aA ((cK aJ _ _).2 h),aM]
  grind
 simp_all[cK]
def Tv(x y:Ik):Int:=if x.1=y.1∧x.2.1≠y.2.1 then(if y.2.1=true then-1 else 1) else r9 x.1 y.1
theorem qm(x y:Ik):Tv x y<0↔r9 x.1 y.1<0∨x.1=y.1∧x.2.1=false∧y.2.1=true:=by
 unfold Tv
 by_cases h:x.1=y.1
 ·grind [vN]
 grind
theorem EE{A:List Ik}(h:A.Nodup):∃ys,ys.Perm A∧∀zs,zs.Perm A→B0 zs=some ys:=by
 refine yS (f:=Tv) I7 (fun x=>?_) (fun x y z=>?_) ?_
 ·simp_all[qm,vN]
 ·rw[qm,qm,qm]
  rintro(h1|⟨h1,h2,h3⟩) (g1|⟨g1,g2,g3⟩)
  ·exact Or.inl (Hd _ _ _ h1 g1)
  ·grind
  ·grind
  grind
 grind [List.Pairwise.imp,qm,Hc]
end
theorem yC{k:kt.den}:∀{z:List (kt.den×α)},k∈z.map (·.1)→(z.map (·.1)).Perm (k::(iX kt k z).map (·.1))
 |[],h=>by cases h
 |
  e::z,h=>by
  unfold iX
  by_cases he:bl kt k e.1=true
  ·simp_all[cK]
  ·rw[aC he]
   have h2:k∈z.map (·.1):=by
    grind [cK]
   exact((yC h2).cons e.1).trans (List.Perm.swap ..)
def KK(O N:List In):List Sp:=((lZ O N).map bR).map (fun p=>(((2:Int),p):Sp))++((lZ N O).map bR).map fun p=>(((1:Int),p):Sp)
section
variable{O N:List In} {l:List Sp}
theorem KJ(hO:CO O)(hN:CO N)(o:Ze):∃Z,B1 o (some (O.map pr)) (some (N.map pr))=some Z∧Z.Perm (lZ O N):=by
 grind [gD,B1]
theorem KL(hO:CO O)(hN:CO N)(o:Ze):∃Z,B2 o (some (O.map pr)) (some (N.map pr))=some Z∧Z.Perm (lZ N O):=by
 grind [gD,B2]
theorem I8{ST FR:List In}(hS:CO ST)(hF:CO FR):B3 ST FR=some (sa ST FR):=by
 unfold B3
 rw[st3 (L:=zO) rfl hS _ (by omega),aF]
 dsimp only
 rw[st8 (L:=zP) rfl hS hF _ (by omega),aF]
theorem Tw{ST FR:List In}(hS:ST.Perm (lZ O N))(hF:FR.Perm (lZ N O)):((sa ST FR).map (·.1)).Perm (KK O N):=by
 rw[Al]
 exact((hS.map bR).map _).append ((hF.map bR).map _)
theorem CD(hO:CO O)(hN:CO N)(o:Ze)(hl:l.length≤1000):∃r,qa o (some (O.map pr)) (some (N.map pr)) l=some r∧(r=true↔l.Perm (KK O N)):=by
 have hM:aH=140737488355328:=rfl
 obtain⟨ST,e1,hS⟩:=KJ hO hN o
 obtain⟨FR,e2,hF⟩:=KL hO hN o
 have cS:=(hO.lZ N).perm hS
 have cF:=(hN.lZ O).perm hF
 have hK:=Tw hS hF
 suffices hW:W (qa o (some (O.map pr)) (some (N.map pr)) l) fun r=>r=true↔l.Perm (KK O N) by
  trivial
 unfold qa
 rw[e1,aM,e2,aM,I8 cS cF,aM]
 have h2:=hK.length_eq
 rw[jC] at h2
 split
 ·rename_i hlen
  simp only[gX,decide_eq_false_iff_not] at hlen
  exact⟨_,rfl,fun h=>(by cases h),fun h=>absurd h.length_eq (by omega)⟩
 ·rename_i hlen
  have hlen:l.length=(sa ST FR).length:=by grind
  refine bK.2 (W.ct (bW (L:=zQ) rfl (CT (fun _=>l.Perm (KK O N)) fun r=>r=false∧¬l.Perm (KK O N)) l.length (fun c(d:List (Sp×Ik))=>(l,(l.length:Int),(c:Int),d)) (fun c d=>(l.take c++d.map (·.1)).Perm (KK O N)) ?step ?stop _ 0 (sa ST FR) (by omega) (by omega) (by grind)) (fun _ h=>?_) fun r h=>?_)
  case step=>
   intro rec c d hc hd kk
   dsimp only
   rw[cH (by omega),eA c,aA (by omega),cP (t:=bB) hc,bk (by omega)]
   split
   ·rename_i hm
    refine⟨_,rfl,rfl,fun hp=>?_⟩
    have h3:=hd.trans hp.symm
    rw[←kC c l,CV (by grind),qt,Nat.min_self,List.perm_append_left_iff] at h3
    have h4:l[c]∈d.map (·.1):=h3.mem_iff.2 (by grind [l7])
    rw[(di (kt:=bB) rfl).2 h4] at hm
    cases hm
   ·rename_i hm
    have hm:bT bB l[c] d=true:=by grind
    refine kk _ ?_
    have hp:=yC ((di (kt:=bB) rfl).1 hm)
    grind [List.take_succ_eq_append_getElem]
  case stop=>
   intro rec d hd
   dsimp only
   rw[aC (by grind)]
   refine⟨_,rfl,?_⟩
   rw[List.take_length] at hd
   have h1:=hd.length_eq
   rw[kj] at h1
   have h3:d.map (·.1)= []:=List.length_eq_zero_iff.1 (by omega)
   rw[h3,fT] at hd
   exact hd
  ·exact⟨_,rfl,fun _=>h,fun _=>rfl⟩
  grind
end
abbrev Ow:=rN
def ow(p:Pl):Ow:=(p.1,(p.2.1,()))
theorem CE(p:Pl):f59 p=some (ow p):=rfl
def ND(f:Ow→Int)(o:Ow)(v:Int):Ow→Int:=fun q=>if q=o then v else f q
def kp(b:Ow→Bool):(Ow→Int)→List Sp→Bool
 |_,[]=>true
 |f,s::l=>if b (ow s.2)&&decide (ND f (ow s.2) (if s.1=1 then f (ow s.2)+1 else f (ow s.2) -1) (ow s.2)<1) then false else kp b (ND f (ow s.2) (if s.1=1 then f (ow s.2)+1 else f (ow s.2) -1)) l
theorem qn{k:kt.den}{v:α}:∀{z:List (kt.den×α)},bT kt k z=true→(aY kt k v z).length=z.length
 |[],h=>by cases h
 |
  e::z,h=>by
  unfold aY
  by_cases he:bl kt k e.1=true
  ·grind
  simp_all[bT,qn]
structure Tx(j:List (Ow×Int))(f:Ow→Int)(n:Nat):Prop where
 get:∀o,aP bw (.int .i64) o j=f o
 len:j.length≤n
 bd:∀o,-(n:Int)≤f o∧f o≤(n:Int)
theorem Tx.put{j:List (Ow×Int)}{f:Ow→Int}{n:Nat}(h:Tx j f n)(o:Ow){v:Int}(hv:v=f o+1∨v=f o -1):Tx (aY bw o v (aY bw o (aP bw (.int .i64) o j) j)) (ND f o v) (n+1):=by
 have hk:(bw).keyed=true:=rfl
 refine⟨fun q=>?_,?_,fun q=>?_⟩
 ·unfold ND
  by_cases hq:q=o
  ·subst hq
   rw[aA rfl,du (kt:=bw) (vt:=.int .i64) hk]
  ·rw[aC hq,dF (kt:=bw) (vt:=.int .i64) hk hq,dF (kt:=bw) (vt:=.int .i64) hk hq,h.get]
 ·have h0:=h.len
  have h1:(aY bw o (aP bw (.int .i64) o j) j).length≤j.length+1:=dw
  have h2:bT bw o (aY bw o (aP bw (.int .i64) o j) j)=true:=fK hk o _ j
  have h3:(aY bw o v (aY bw o (aP bw (.int .i64) o j) j)).length=(aY bw o (aP bw (.int .i64) o j) j).length:=qn h2
  omega
 ·have h0:=h.bd o
  have h1:=h.bd q
  unfold ND
  grind
theorem Hi{R:Type}{t:Ty}{x y:t.den}(h:x=y)(K:Option R):mZ t x y K=K:=aA h
section
variable{O N:List In} {l:List Sp}
theorem vO{R:Type}{j:List (Ow×Int)}{f:Ow→Int}{n:Nat}(h:Tx j f n)(hn:n≤100000)(o o':Ow)(ho:o'=o)(v:Int)(K:Option R):
 (if bl bw o' o=true then(if j.length+1≤aH then(if bT bw o (aY bw o (aP bw (.int .i64) o j) j)=true then(mZ (.int .i64) (aP bw (.int .i64) o' j) (aP bw (.int .i64) o' (aY bw o (aP bw (.int .i64) o j) j)) (mZ (.int .i64) v v K)) else none) else none) else none)=K:=by
 have hM:aH=140737488355328:=rfl
 have hk:(bw).keyed=true:=rfl
 subst ho
 have hl:=h.len
 rw[aA ((cK _ _ _).2 rfl),aA (by omega),aA (fK hk o' _ j),Hi (by rw[du (kt:=bw) (vt:=.int .i64) hk]),Hi rfl]
theorem N7(b:Ow→Bool){k:List (Ow×Bool)}(hk:∀o,aP bw .bool o k=b o)(hl:l.length≤1000):∀(n i:Nat)(j:List (Ow×Int))(f:Ow→Int),l.length -i<n→i≤l.length→Tx j f (2000+i)→
 jS n (l,(l.length:Int),(i:Int),j,k)=some (if kp b f (l.drop i)=true then .brk () else .ret false):=by
 have hM:aH=140737488355328:=rfl
 intro n
 induction n with
 |zero=>grind
 |
  succ n ih=>
  intro i j f hn hi hj
  unfold jS at ih ⊢
  rw[aN]
  generalize aL _ n=rec at ih ⊢
  dsimp only
  by_cases h:i<l.length
  ·have hb:=hj.bd (ow l[i].2)
   have hw:=nU i (by omega)
   rw[cH (by omega),eA i,aA (by omega),cP (t:=bB) h,l7 h]
   have hg:aP bw (.int .i64) (l[i].2.1,(l[i].2.2.1,())) j=f (ow l[i].2):=hj.get (ow l[i].2)
   have hO2:((l[i].2.1,(l[i].2.2.1,())):Ow)=ow l[i].2:=rfl
   rw[hO2] at hg ⊢
   have fin:∀v,v=(if l[i].1=1 then f (ow l[i].2)+1 else f (ow l[i].2) -1)→aI (U:=(List Sp)×Int×Int×Ow×(List (Ow×Int))×(List (Ow×Bool))) (some (.brk (l,(l.length:Int),(i:Int),ow l[i].2,aY bw (ow l[i].2) v (aY bw (ow l[i].2) (aP bw (.int .i64) (ow l[i].2) j) j),k))) (fun⟨d,e,f,a,c,b⟩=>Option.bind (α:=Bool) (if(aP bw .bool a b)=true then(some (decide ((aP bw (.int .i64) a c)<(1:Int)))) else(some false)) fun v9=>if v9=true then(bX (some false)) else(rec (d,e,bp (f+(1:Int)),c,b)))=some (if kp b f (l[i]::l.drop (i+1))=true then .brk () else .ret false):=by
    intro v hv
    have hj2:=hj.put (ow l[i].2) (v:=v) (by grind)
    rw[aF]
    dsimp only
    rw[hk,hj2.get,hw]
    have hrec:=ih (i+1) _ _ (by omega) (by omega) hj2
    have hkp:kp b f (l[i]::l.drop (i+1))=if(b (ow l[i].2)&&decide (ND f (ow l[i].2) v (ow l[i].2)<1))=true then false else kp b (ND f (ow l[i].2) v) (l.drop (i+1)):=by
     rw[hv];rfl
    rw[hkp]
    cases hbo:b (ow l[i].2) with
    |
     false=>
     grind
    |
     true=>
     rw[Bool.true_and,aA rfl,aM]
     by_cases hlt:ND f (ow l[i].2) v (ow l[i].2)<1
     ·rw[cQ hlt,aA rfl,aA rfl]
      rfl
     grind
   by_cases h1:l[i].1=1
   ·rw[cH h1,vO hj (by omega) _ _ rfl,hg,ig (by omega) (by omega)]
    grind
   ·rw[aC (by grind),vO hj (by omega) _ _ rfl,hg,ig (by omega) (by omega)]
    grind
  ·rw[aC (by grind),tE (by omega)]
   rfl
def owB(o:Ow)(x:In):Bool:=decide (ow (bR x)=o)
def gE(A:List In)(o:Ow):Int:=((A.filter (owB o)).length:Int)
theorem sj(x:In)(A:List In)(o:Ow):gE (x::A) o=(if o=ow (bR x) then 1 else 0)+gE A o:=by
 unfold gE owB
 grind
theorem yD{A B:List In}(h:A.Perm B)(o:Ow):gE A o=gE B o:=by
 unfold gE
 rw[(h.filter _).length_eq]
def both(O N:List In)(o:Ow):Bool:=decide (0<gE O o)&&decide (0<gE N o)
theorem Hj(A:List In)(o:Ow):0≤gE A o:=dH _
theorem N8(A:List In)(o:Ow):gE A o≤(A.length:Int):=by
 grind [gE]
theorem KM(c:List (Ow×Int))(hc:Tx c (gE O) 2000)(hl:l.length≤1000):∀(n:Nat)(es:List (Pl×In))(d:List (Ow×Bool)),es.length<n→d.length+es.length≤2000→(∀e∈es,e.1=bR e.2)→
 (∀o,(aP bw .bool o d=true∨0<gE O o∧0<gE (es.map (·.2)) o)↔both O N o=true)→
 lJ n (l,c,d,es)=some (kp (both O N) (gE O) l):=by
 have hM:aH=140737488355328:=rfl
 intro n
 induction n with
 |zero=>grind
 |
  succ n ih=>
  intro es d hn hd hes hI
  unfold lJ at ih ⊢
  rw[aN]
  generalize aL _ n=rec at ih ⊢
  dsimp only
  cases es with
  |
   nil=>
   rw[aA (show List.isEmpty ([]:List (Pl×In))=true from rfl)]
   have hb:∀o,aP bw .bool o d=both O N o:=fun o=>by
    have:=hI o
    have h0:¬(0<gE (([]:List (Pl×In)).map (·.2)) o):=by
     show¬((0:Int)<0)
     omega
    grind
   have e:=N7 (l:=l) (both O N) hb hl (Int.toNat (l.length:Int)+1) 0 c (gE O) (by omega) (by omega) ⟨hc.get,by have:=hc.len;omega,fun o=>by have:=hc.bd o;omega⟩
   have e:jS (Int.toNat (l.length:Int)+1) (l,(l.length:Int),0,c,d)=_:=e
   rw[e,iT]
   cases kp (both O N) (gE O) l<;>rfl
  |
   cons e0 l0=>
   rw[aC (by simp)]
   refine nM (by simp) fun i hi=>?_
   have hl2:((e0::l0).eraseIdx i).length=l0.length:=by grind
   have he:=hes _ (fU hi)
   have ams:∀e∈(e0::l0).eraseIdx i,e.1=bR e.2:=fun e h'=>hes e (List.mem_of_mem_eraseIdx h')
   have hpk:((e0::l0).map (·.2)).Perm ((e0::l0)[i].2::((e0::l0).eraseIdx i).map (·.2)):=(gN (e0::l0) i hi).map (·.2)
   have hI:∀o,(aP bw .bool o d=true∨0<gE O o∧0<gE ((e0::l0)[i].2::((e0::l0).eraseIdx i).map (·.2)) o)↔both O N o=true:=fun o=>by rw[←yD hpk];grind
   rw[gM] at hn hd
   generalize (e0::l0)[i]=e at he hI
   generalize (e0::l0).eraseIdx i=m at hl2 ams hI
   obtain⟨q,x⟩:=e
   dsimp only at he hI
   subst he
   dsimp only
   rw[CE,aM,hc.get]
   by_cases hp:0<gE O (ow (bR x))
   ·rw[cH hp,aM,aA (by omega)]
    have hml:(aY bw (ow (bR x)) true d).length≤d.length+1:=dw
    refine ih m _ (by omega) (by omega) ams fun o=>?_
    rw[←hI o,sj]
    have h0:=Hj (m.map (·.2)) o
    by_cases ho:o=ow (bR x)
    ·subst ho
     rw[du (kt:=bw) (vt:=.bool) rfl,aA rfl]
     grind
    ·rw[dF (kt:=bw) (vt:=.bool) rfl ho,aC ho,Int.zero_add]
   ·rw[aC (by grind)]
    refine ih m d (by omega) (by omega) ams fun o=>?_
    rw[←hI o,sj]
    grind
theorem N9(hO:CO O)(hN:CO N)(o:Ze)(hl:l.length≤1000):j8 o (some (O.map pr)) (some (N.map pr)) l=some (kp (both O N) (gE O) l):=by
 have hM:aH=140737488355328:=rfl
 have hOl:=hO.len
 have hNl:=hN.len
 have key:∀(n:Nat)(es:List (Pl×In))(d:List (Ow×Int))(f:Ow→Int)(k:Nat),es.length<n→k+es.length≤2000→(∀e∈es,e.1=bR e.2)→Tx d f k→(∀o,f o+gE (es.map (·.2)) o=gE O o)→(∀o,0≤f o)→
  lK n (o,some (O.map pr),some (N.map pr),l,d,[],es)=some (kp (both O N) (gE O) l):=by
  intro n
  induction n with
  |zero=>grind
  |
   succ n ih=>
   intro es d f k hn hk hes hd hI h0
   unfold lK at ih ⊢
   rw[aN]
   generalize aL _ n=rec at ih ⊢
   dsimp only
   cases es with
   |
    nil=>
    rw[aA (show List.isEmpty ([]:List (Pl×In))=true from rfl)]
    have hf:f=gE O:=funext fun o=>by
     simp_all[gE]
    subst hf
    have e:(N.map pr).map (·.2)=N:=by rw[iu];exact List.map_id' N
    refine KM (N:=N) d ⟨hd.get,by have:=hd.len;omega,fun o=>by have:=Hj O o;have:=N8 O o;omega⟩ hl _ (N.map pr) [] (by simp[aX]) (by grind) (fun e he=>?_) fun o=>?_
    ·obtain⟨x,_,rfl⟩:=List.mem_map.1 he
     rfl
    ·rw[e]
     unfold both
     rw[bj,qp,qp]
     exact⟨fun h=>h.resolve_left (fun h'=>by cases h'),Or.inr⟩
   |
    cons e0 l0=>
    rw[aC (by simp)]
    refine nM (by simp) fun i hi=>?_
    have hl2:((e0::l0).eraseIdx i).length=l0.length:=by grind
    have he:=hes _ (fU hi)
    have ams:∀e∈(e0::l0).eraseIdx i,e.1=bR e.2:=fun e h'=>hes e (List.mem_of_mem_eraseIdx h')
    have hpk:((e0::l0).map (·.2)).Perm ((e0::l0)[i].2::((e0::l0).eraseIdx i).map (·.2)):=(gN (e0::l0) i hi).map (·.2)
    have hI:∀o,f o+gE ((e0::l0)[i].2::((e0::l0).eraseIdx i).map (·.2)) o=gE O o:=fun o=>by rw[←yD hpk];grind
    rw[gM] at hn hk
    generalize (e0::l0)[i]=e at he hI
    generalize (e0::l0).eraseIdx i=m at hl2 ams hI
    obtain⟨q,x⟩:=e
    dsimp only at he hI
    subst he
    dsimp only
    have hO2:(((bR x).1,((bR x).2.1,())):Ow)=ow (bR x):=rfl
    have hb:=hd.bd (ow (bR x))
    rw[CE,aM,hO2,vO hd (by omega) _ _ rfl,hd.get,ig (by omega) (by omega)]
    rw[←hd.get (ow (bR x))]
    have hp:=hd.put (ow (bR x)) (v:=f (ow (bR x))+1) (Or.inl rfl)
    rw[←hd.get (ow (bR x))] at hp
    refine ih m _ _ (k+1) (by omega) (by omega) ams hp (fun o=>?_) fun o=>?_
    ·rw[←hI o,sj]
     unfold ND
     by_cases ho:o=ow (bR x)
     ·rw[aA ho,aA ho,hd.get,ho];omega
     grind
    ·have:=h0 o
     have:=h0 (ow (bR x))
     unfold ND
     rw[hd.get]
     grind
 unfold j8
 refine key _ (O.map pr) [] (fun _=>0) 0 (by simp[aX]) (by grind) (fun e he=>?_) ⟨fun _=>rfl,by simp,fun _=>by omega⟩ (fun q=>?_) fun _=>mH _
 ·grind
 ·have e:(O.map pr).map (·.2)=O:=by rw[iu];exact List.map_id' O
  grind
end
theorem KN{p:Pl}:∀{m:List (Pl×Bool)},(∀e∈m,e.2=true)→(aP aJ .bool p m=true↔p∈m.map (·.1))
 |[],_=>⟨fun h=>(by cases h),fun h=>(by cases h)⟩
 |
  e::m,h=>by
  have ih:=KN (p:=p) fun e he=>h e (dj _ he)
  rw[dy,fb]
  unfold aP
  by_cases he:bl aJ p e.1=true
  ·simp_all[cK]
  simp_all[cK]
section
variable{w:bz} {lo P:Ze} {d k:Int}
def I9(w:bz)(lo:Ze)(d k:Int)(s:Sp):List In:=if rX true (dM w) s.2.1 s.2.2.1 d=true then((LL w lo 0 (s.2.1,(s.2.2.1,((0:Int),())))).run (Oa w d k)).1.2.2.1 else[]
theorem Sv(hs:SA w.1.1)(hT:FT w.1.1)(hf:w.2.1.length≤60)(hcg:CG w.1.1 lo)(hP:P.length≤4){s:Sp}(a0:0≤s.2.1)(a1:s.2.1<(w.1.1.2.2.1.length:Int))(hp:s.2.2.1∈P){ix:List (Ky×List Fa)}(h:∀key,aP aJ (.slice 64 bH) key ix=iR key w.2.1){fo:FM}{se:SM}{rs:List Rd}(hI:MI w.1.1 (tq w P) (Up w P) (Oa w d k) (LL w lo 0) fo se rs):
 ∃b fo' se' rs',Cc s.2.1 s.2.2.1 w (some ix) d k true (dM w) () fo se rs=some (I9 w lo d k s,b,w,some ix,d,k,true,dM w,(),fo',se',rs')∧MI w.1.1 (tq w P) (Up w P) (Oa w d k) (LL w lo 0) fo' se' rs'∧(I9 w lo d k s).length≤3:=by
 unfold Cc
 rw[vJ,aM]
 dsimp only
 unfold I9
 cases hi:rX true (dM w) s.2.1 s.2.2.1 d with
 |
  false=>
  rw[aA (show(!false)=true from rfl),aC (show¬(false=true) by decide)]
  grind
 |
  true=>
  rw[aC (show¬(!true)=true by decide),aA rfl]
  obtain⟨x,ex,fo',se',rfl,h',_,hg⟩:=Ku hs hT hf hcg hP s.2.1 s.2.2.1 h d k () (i:=0) a0 a1 (by omega) (by omega) hp fo se rs hI
  rw[ex]
  exact⟨_,fo',se',_,rfl,h',hg.1⟩
def OD(w:bz)(lo:Ze)(d k:Int)(O N:List In)(l:List Sp)(c:Nat):Prop:=∀n,n<c→∀h:n<l.length,l[n].1=1→∀x∈I9 w lo d k l[n],bR x∈(lZ N O).map bR→(((1:Int),bR x):Sp)∈l.take n
structure FM'(O N:List In)(m:List (Pl×Bool))(pre:List Sp):Prop where
 nd:(m.map (·.1)).Nodup
 tr:∀e∈m,e.2=true
 mem:∀p,p∈m.map (·.1)↔p∈(lZ N O).map bR∧(((1:Int),p):Sp)∉pre
theorem KQ(hs:SA w.1.1)(hT:FT w.1.1)(hf:w.2.1.length≤60)(hcg:CG w.1.1 lo)(hP:P.length≤4){O N:List In}(hO:CO O)(hN:CO N){l:List Sp}(hll:l.length≤1000)(hl:∀s∈l,s.1=1→0≤s.2.1∧s.2.1<(w.1.1.2.2.1.length:Int)∧s.2.2.1∈P)(o:Ze){ix:List (Ky×List Fa)}(h:∀key,aP aJ (.slice 64 bH) key ix=iR key w.2.1){fo:FM}{se:SM}{rs:List Rd}(hI:MI w.1.1 (tq w P) (Up w P) (Oa w d k) (LL w lo 0) fo se rs):
 W (tn l (some (O.map pr)) (some (N.map pr)) o w (some ix) d k true (dM w) () fo se rs) fun r=>r.1=true↔OD w lo d k O N l l.length:=by
 have hM:aH=140737488355328:=rfl
 obtain⟨FR,e1,hF⟩:=gD hN hO
 have cF:=(hN.lZ O).perm hF
 have hFl:=cF.len
 unfold tn nF
 rw[e1,aM,aM]
 dsimp only
 have e3:tk (Int.toNat (List.length FR:Int)+1) (l,FR,(List.length FR:Int),0,some (O.map pr),some (N.map pr),o,w,some ix,d,k,true,dM w,(),fo,se,rs,([]:List (Pl×Bool)))=some (.brk (l,some (O.map pr),some (N.map pr),o,w,some ix,d,k,true,dM w,(),fo,se,rs,FR.map fun x=>(bR x,true))):=by
  obtain⟨r,e,hr⟩:=bW (L:=tk) rfl (fun r=>r= .brk (l,some (O.map pr),some (N.map pr),o,w,some ix,d,k,true,dM w,(),fo,se,rs,FR.map fun x=>(bR x,true))) FR.length (fun c(s:List (Pl×Bool))=>(l,FR,(FR.length:Int),(c:Int),some (O.map pr),some (N.map pr),o,w,some ix,d,k,true,dM w,(),fo,se,rs,s)) (fun c s=>s=(FR.take c).map fun x=>(bR x,true)) (by
   intro rec c s hc hs kk
   have hsl:s.length≤1000:=by grind
   dsimp only
   rw[cH (by omega),eA c,aA (by omega),cP (t:=br) hc,bk (by omega)]
   show W (Option.bind (some (bR FR[c])) _) _
   rw[aM,aA (by omega)]
   refine kk _ ?_
   have hsn:((FR.take c).map fun x=>(bR x,true)).map (·.1)=(FR.take c).map bR:=by rw[iu];rfl
   rw[gq (kt:=aJ) rfl,hs,List.take_succ_eq_append_getElem hc,fV]
   ·rfl
   ·rw[hs,hsn]
    intro hm
    have h3:((FR.take (c+1)).map bR).Nodup:=((List.take_sublist (c+1) FR).map bR).nodup cF.nd
    rw[List.take_succ_eq_append_getElem hc,fV,mJ] at h3
    grind) (by
   intro rec s hs
   dsimp only
   rw[aC (by grind)]
   refine⟨_,rfl,?_⟩<;>grind) (Int.toNat (List.length FR:Int)+1) 0 [] (by omega) (by omega) rfl
  grind
 rw[e3,aF]
 dsimp only
 have hm0:FM' O N (FR.map fun x=>(bR x,true)) []:=by
  have hsn:(FR.map fun x=>(bR x,true)).map (·.1)=FR.map bR:=by simp_all
  refine⟨by rw[hsn];exact cF.nd,fun e he=>?_,fun p=>?_⟩<;>grind
 refine bK.2 (W.ct (bW (L:=zZ) rfl (CT (fun _=>OD w lo d k O N l l.length) fun r=>r.1=false∧¬OD w lo d k O N l l.length) l.length (fun c(s:FM×SM×List Rd×List (Pl×Bool))=>(l,(l.length:Int),(c:Int),some (O.map pr),some (N.map pr),o,w,some ix,d,k,true,dM w,(),s.1,s.2.1,s.2.2.2,s.2.2.1)) (fun c s=>MI w.1.1 (tq w P) (Up w P) (Oa w d k) (LL w lo 0) s.1 s.2.1 s.2.2.1∧FM' O N s.2.2.2 (l.take c)∧OD w lo d k O N l c) ?step ?stop _ 0 (fo,se,rs,FR.map fun x=>(bR x,true)) (by omega) (by omega) ⟨hI,by grind,fun n hn=>absurd hn (Nat.not_lt_zero n)⟩) (fun r hr=>⟨_,rfl,fun _=>hr,fun _=>rfl⟩) fun r hr=>⟨fun h'=>(by grind),fun h'=>absurd h' hr.2⟩)
 case step=>
  rintro rec c ⟨fo,se,rs,m⟩ hc ⟨hI,hm,hod⟩ kk
  dsimp only at hI hm ⊢
  have hw2:=nU c (by omega)
  have et:l.take (c+1)=l.take c++[l[c]]:=List.take_succ_eq_append_getElem hc
  rw[cH (by omega),eA c,aA (show(c:Int)<(l.length:Int) by omega),cP (t:=bB) hc]
  by_cases h1:l[c].1=1
  ·rw[aC (show¬(!decide (l[c].1=(1:Int)))=true by simp[h1])]
   obtain⟨g1,g2,g3⟩:=hl _ (fU hc) h1
   obtain⟨b,fo',se',rs',eb,hI',hbl⟩:=Sv hs hT hf hcg hP g1 g2 g3 h hI
   rw[eb,aM]
   dsimp only
   generalize hB:I9 w lo d k l[c]=B at hbl
   refine bK.2 (bK.2 (W.ct (bW (L:=xS) rfl (CT (fun r=>r=(l,(l.length:Int),(c:Int),some (O.map pr),some (N.map pr),o,w,some ix,d,k,true,dM w,(),fo',se',l[c],m,rs')∧∀x∈B,¬aP aJ .bool (bR x) m=true) fun r=>∃x,(x.1=false∧¬OD w lo d k O N l l.length)∧r= .ret (.ret x)) B.length (fun i(_:Unit)=>(l,(l.length:Int),(c:Int),B,(B.length:Int),(i:Int),some (O.map pr),some (N.map pr),o,w,some ix,d,k,true,dM w,(),fo',se',l[c],m,rs')) (fun i _=>∀x∈B.take i,¬aP aJ .bool (bR x) m=true) ?s2 ?t2 _ 0 () (by omega) (by omega) (fun x hx=>by cases hx)) (fun r hr=>?_) fun r hr=>?_))
   case s2=>
    intro rec2 i _ hi hx kk2
    dsimp only
    rw[cH (by omega),eA i,aA (by omega),cP (t:=br) hi,bk (by omega)]
    show W (Option.bind (some (bR B[i])) _) _
    rw[aM]
    split
    ·rename_i hg
     rw[KN hm.tr,hm.mem] at hg
     exact⟨_,rfl,_,⟨rfl,fun hall=>hg.2 (hall c hc hc h1 _ (by grind) hg.1)⟩,rfl⟩
    ·rename_i hg
     refine kk2 () fun x hx2=>?_
     rw[List.take_succ_eq_append_getElem hi] at hx2
     grind
   case t2=>
    intro rec2 _ hx
    dsimp only
    rw[aC (by grind)]
    rw[List.take_length] at hx
    exact⟨_,rfl,rfl,hx⟩
   ·obtain⟨rfl,hx⟩:=hr
    refine⟨_,rfl,?_⟩
    rw[iD]
    dsimp only
    rw[hw2]
    have ams:(iX aJ l[c].2 m).Sublist m:=nz
    refine kk (fo',se',rs',iX aJ l[c].2 m) ⟨hI',⟨(ams.map _).nodup hm.nd,fun e he=>hm.tr e (ams.subset he),fun p=>?_⟩,fun n hn hnl hn1 x hxb hxF=>?_⟩
    ·rw[sf (kt:=aJ) rfl hm.nd,hm.mem,et,ql]
     exact⟨fun⟨q1,q2,q3⟩=>⟨q2,fun q4=>q4.elim q3 fun q5=>q1 q5.2.symm⟩,fun⟨q1,q2⟩=>⟨fun q3=>q2 (Or.inr ⟨h1,q3.symm⟩),q1,fun q4=>q2 (Or.inl q4)⟩⟩
    ·by_cases hnc:n<c
     ·exact hod n hnc hnl hn1 x hxb hxF
     ·have:n=c:=by omega
      subst this
      rw[hB] at hxb
      have h5:=hx x hxb
      rw[KN hm.tr,hm.mem] at h5
      grind
   ·obtain⟨x,hx,rfl⟩:=hr
    exact hx
  ·rw[aA (show(!decide (l[c].1=(1:Int)))=true by simp[h1]),aF]
   dsimp only
   rw[hw2]
   refine kk (fo,se,rs,m) ⟨hI,⟨hm.nd,hm.tr,fun p=>?_⟩,fun n hn hnl hn1 x hxb hxF=>?_⟩
   ·rw[hm.mem,et,ql]
    exact and_congr Iff.rfl (not_congr ⟨Or.inl,fun q=>q.resolve_right fun q2=>h1 q2.1⟩)
   ·by_cases hnc:n<c
    ·exact hod n hnc hnl hn1 x hxb hxF
    grind
 case stop=>
  rintro rec ⟨fo,se,rs,m⟩ ⟨_,_,hod⟩
  dsimp only
  rw[aC (by grind)]
  exact⟨_,rfl,hod⟩
theorem oN(hs:SA w.1.1)(hT:FT w.1.1)(hf:w.2.1.length≤60)(hcg:CG w.1.1 lo)(er:f44 w.1=some 0)(hP:P.length≤4)(hn:P.Nodup):CO (CL w lo P d k):=by
 refine⟨KB hcg hn,?_,fun x hx=>?_⟩
 ·have:=lf (f:=fun p=>AL w lo p d k) (n:=24) (l:=P) fun p _=>(Ah hs hT hf hcg er p d k).1
  unfold CL
  omega
 ·obtain⟨p,_,hx⟩:=List.mem_flatMap.1 hx
  grind [Ah]
end
structure CK(w:bz)(P:Ze)(d b a:Int)(l:List Sp):Prop where
 ok:fv w P d b a≠none
 cg:CG w.1.1 w.1.2.1
 er:f44 w.1=some 0
 vp:VP P d
 all:l.Perm (KK (CL w w.1.2.1 P d b) (CL w w.1.2.1 P d a))
 kp:kp (both (CL w w.1.2.1 P d b) (CL w w.1.2.1 P d a)) (gE (CL w w.1.2.1 P d b)) l=true
 od:OD w w.1.2.1 d a (CL w w.1.2.1 P d b) (CL w w.1.2.1 P d a) l l.length
variable{N:List In}
theorem KR{s:Sp}:s∈KK O N↔s.1=2∧s.2∈(lZ O N).map bR∨s.1=1∧s.2∈(lZ N O).map bR:=by
 unfold KK
 grind
theorem Tz{l:List Sp}(hs:SA w.1.1)(hT:FT w.1.1)(hf:w.2.1.length≤60)(hP:P.length≤4)(hll:l.length≤1000)(d b a:Int):∃r,f11 w P d b a l=some r∧(r=true↔CK w P d b a l):=by
 suffices hW:W (f11 w P d b a l) fun r=>r=true↔CK w P d b a l by
  trivial
 unfold f11 GU GY
 rcases lh hs hT hf hP d b a with h0|⟨e2,hcg,er,o,ix,fo,se,rs,e1,_,hvp,hI,hix⟩
 ·obtain⟨e1,e2⟩:=h0 b a
  rw[e1,e2]
  exact⟨_,rfl,fun h=>(by cases h),fun h=>absurd e1 h.ok⟩
 ·have hO:=oN (d:=d) (k:=b) hs hT hf hcg er hP hvp.jf
  have hN:=oN (d:=d) (k:=a) hs hT hf hcg er hP hvp.jf
  have fW:fv w P d b a≠none:=by grind
  rw[e1,e2,aM,nL hcg hvp.jf,nL hcg hvp.jf]
  dsimp only
  rw[aA rfl]
  obtain⟨r1,c1,h1⟩:=CD (l:=l) hO hN o hll
  rw[c1,aM]
  cases r1 with
  |
   false=>
   rw[aC (show¬(false=true) by decide)]
   exact⟨_,rfl,fun h=>(by cases h),fun h=>absurd (h1.2 h.all) (by decide)⟩
  |
   true=>
   have hall:=h1.1 rfl
   rw[aA rfl,N9 hO hN o hll,aM]
   by_cases hk:kp (both (CL w w.1.2.1 P d b) (CL w w.1.2.1 P d a)) (gE (CL w w.1.2.1 P d b)) l=true
   ·rw[aA hk]
    obtain⟨r,e3,h3⟩:=KQ (o:=o) hs hT hf hcg hP hO hN hll (fun s hsl hs1=>by
     rcases KR.1 (hall.mem_iff.1 hsl) with⟨q1,_⟩|⟨_,q2⟩
     ·omega
     ·obtain⟨x,hx,ex⟩:=List.mem_map.1 q2
      obtain⟨g1,g2,g3,_⟩:=CA hcg x (iN.1 hx).1
      rw[←ex]
      trivial) hix hI
    rw[e3,aM]
    exact⟨_,rfl,fun hr=>⟨fW,hcg,er,hvp,hall,hk,h3.1 hr⟩,fun h=>h3.2 h.od⟩
   ·rw[aC hk]
    exact⟨_,rfl,fun h=>(by cases h),fun h=>absurd h.kp hk⟩
def XV(O N:List In)(l:List Sp):List In:=(O.filter fun x=> !(decide (((2:Int),bR x)∈l)&& !decide (x∈N)))++(lZ N O).filter fun x=>decide (((1:Int),bR x)∈l)
def mD(O N:List In)(k:Ik):In:=if k.2.1=true then aP aJ br k.1 (N.map pr) else aP aJ br k.1 (O.map pr)
theorem TA(hA:(A.map bR).Nodup)(hs:∀x∈B,x∈A){x:In}(hx:x∈A):bR x∈B.map bR↔x∈B:=
 ⟨fun h=>by
  grind [Ss],fun h=>List.mem_map.2 ⟨x,h,rfl⟩⟩
theorem Ob{ST:List In}(hO:CO O)(hN:CO N)(hS:ST.Perm (lZ O N))(hF:FR.Perm (lZ N O))(l:List Sp):((VK O ST FR l).map (mD O N)).Perm (XV O N l):=by
 unfold VK XV
 rw[fV,iu,iu]
 refine List.Perm.append ?_ ?_
 ·have e1:(O.filter (tu ST l)).map (mD O N∘fun x=>((bR x,(false,())):Ik))=O.filter (tu ST l):=by
   refine(List.map_congr_left fun x hx=>?_).trans (List.map_id' _)
   exact Aj hO.nd (List.mem_filter.1 hx).1
  have e2:O.filter (tu ST l)=O.filter fun x=> !(decide (((2:Int),bR x)∈l)&& !decide (x∈N)):=by
   refine List.filter_congr fun x hx=>?_
   unfold tu
   have h1:bR x∈ST.map bR↔¬x∈N:=by
    rw[TA hO.nd (fun y hy=>(iN.1 (hS.mem_iff.1 hy)).1) hx,hS.mem_iff,iN]
    grind
   simp_all
  grind
 ·have e1:(FR.filter fun x=>decide (((1:Int),bR x)∈l)).map (mD O N∘fun x=>((bR x,(true,())):Ik))=FR.filter fun x=>decide (((1:Int),bR x)∈l):=by
   refine(List.map_congr_left fun x hx=>?_).trans (List.map_id' _)
   exact Aj hN.nd (iN.1 (hF.mem_iff.1 (List.mem_filter.1 hx).1)).1
  grind
theorem TB{ST:List In}:VK O ST FR []=O.map fun x=>((bR x,(false,())):Ik):=by
 grind [VK,List.filter_eq_self,sh,List.filter_eq_nil_iff]
theorem ab5{l:List Sp}(hs:SA w.1.1)(hT:FT w.1.1)(hf:w.2.1.length≤60)(hP:P.length≤4)(hll:l.length≤1000){d b a:Int}(fW:fv w P d b a≠none):∃X,f13 w P d b a l=some X∧X.Perm (XV (CL w w.1.2.1 P d b) (CL w w.1.2.1 P d a) l):=by
 have hM:aH=140737488355328:=rfl
 rcases lh hs hT hf hP d b a with h0|⟨_,hcg,er,o,ix,fo,se,rs,e1,_,hvp,_,_⟩
 ·grind
 have hO:=oN (d:=d) (k:=b) hs hT hf hcg er hP hvp.jf
 have hN:=oN (d:=d) (k:=a) hs hT hf hcg er hP hvp.jf
 generalize hOe:CL w w.1.2.1 P d b=O at hO
 generalize hNe:CL w w.1.2.1 P d a=N at hN
 obtain⟨ST,es,hS⟩:=gD hO hN
 obtain⟨FR,ef,hF⟩:=gD hN hO
 have cS:=(hO.lZ N).perm hS
 have cF:=(hN.lZ O).perm hF
 have hvl:=ED (ST:=ST) hO cF l
 obtain⟨ys,hys,hsort⟩:=EE (A:=VK O ST FR l) (Hf hO cF l)
 have hyl:=hys.length_eq
 refine⟨ys.map (mD O N),?_,(hys.map _).trans (Ob hO hN hS hF l)⟩
 suffices hW:oG w P d b a l=some (ys.map (mD O N)) by
  unfold f13
  rw[hW]
  rfl
 unfold oG
 rw[e1,aM,nL hcg hvp.jf,nL hcg hvp.jf,hOe,hNe]
 dsimp only
 rw[aC (by decide)]
 unfold nG nF
 rw[es,aM,aM]
 dsimp only
 rw[ef,aM,aM]
 dsimp only
 rw[KE cS cF,aM]
 have efill:=KH hO cS cF hll (List.length (aX (some (O.map pr)))+1) (O.map pr) [] (by simp[aX]) (by
  rw[iu,TB]
  trivial)
 have efill:Vj l (some (sa ST FR)) (List.length (aX (some (O.map pr)))+1) [] (aX (some (O.map pr))) []=_:=efill
 rw[efill,aM]
 refine vL (dO _) fun q hq=>?_
 rw[hsort q (hq.trans Hg),aM]
 obtain⟨r,e,hr⟩:=bW (L:=lY) rfl (fun r=>r= .brk (ys.map (mD O N))) ys.length (fun c(s:List In)=>((ys.length:Int),(c:Int),o,w,some ix,d,a,true,dM w,(),some (O.map pr),some (N.map pr),rs,fo,se,ys,s)) (fun c s=>s=(ys.take c).map (mD O N)) (by
  intro rec c s hc hs kk
  have hsl:s.length≤2000:=by grind
  dsimp only
  rw[cH (by omega),eA c,aA (by omega),cP (t:=dJ) hc,bk (by omega)]
  have et:(ys.take (c+1)).map (mD O N)=s++[mD O N ys[c]]:=by grind [List.take_succ_eq_append_getElem]
  split
  ·rename_i hfr
   rw[aA (by grind)]
   refine kk _ ?_
   rw[et]
   unfold mD
   rw[aA hfr]
   rfl
  ·rename_i hfr
   rw[aA (by grind)]
   refine kk _ ?_
   rw[et]
   unfold mD
   rw[aC hfr]
   rfl) (by
  intro rec s hs
  dsimp only
  rw[aC (by grind)]
  refine⟨_,rfl,?_⟩<;>grind) (Int.toNat (ys.length:Int)+1) 0 [] (by omega) (by omega) rfl
 subst hr
 have e:lY (Int.toNat (ys.length:Int)+1) ((ys.length:Int),0,o,w,some ix,d,a,true,dM w,(),some (O.map pr),some (N.map pr),rs,fo,se,ys,([]:List In))=_:=e
 rw[e,aF]
section
variable{O N:List In} {l:List Sp}
theorem TC{x:In}(h:x∈XV O N l):x∈O∨x∈N:=by
 grind [XV,iN]
end
theorem TE(x y:In)(hx:x.2.2.2.1.length≤1000):f42 x y=some (decide (x=y)):=by
 have hM:aH=140737488355328:=rfl
 have e65:f65 x y=some (decide (bR x=bR y)):=by
  unfold f65
  by_cases h1:x.1=y.1
  ·rw[cH h1]
   by_cases h2:x.2.1=y.2.1
   ·rw[cH h2,aM]
    refine congrArg some (decide_eq_decide.2 ⟨fun h=>Tt h1 h2 h,fun h=>?_⟩)
    exact(Prod.mk.inj (Prod.mk.inj (Prod.mk.inj h).2).2).1
   ·rw[aC (by grind),aM,dE (show¬bR x=bR y from fun h=>h2 (Prod.mk.inj (Prod.mk.inj h).2).1)]
  ·rw[aC (by grind),aM,dE (show¬bR x=bR y from fun h=>h1 (Prod.mk.inj h).1)]
 unfold f42
 rw[e65,aM]
 by_cases hp:bR x=bR y
 ·rw[cQ hp,aC (show¬(!true)=true by decide),aM]
  by_cases hl:x.2.2.2.1.length=y.2.2.2.1.length
  ·rw[aC (show¬(!decide ((x.2.2.2.1.length:Int)=(y.2.2.2.1.length:Int)))=true by simp[hl]),aF]
   dsimp only
   have key:=DC (L:=Ng) rfl x.2.2.2.1.length (fun i=>((i:Int),x,y)) () (fun i=>nth (.int .i64) x.2.2.2.1 (i:Int)=nth (.int .i64) y.2.2.2.1 (i:Int)) (fun r:Bool=>r=false∧x≠y) (by
    intro rec i hi
    dsimp only
    rw[cH (by omega),eA i,aA (by omega),eA i,aA (by omega),bk (by omega)]
    by_cases he:nth (.int .i64) x.2.2.2.1 (i:Int)=nth (.int .i64) y.2.2.2.1 (i:Int)
    ·grind
    ·rw[aA (by simp[he])]
     exact Or.inr ⟨false,⟨rfl,fun e=>he (by rw[e])⟩,rfl⟩) (by
    grind) iZ (wZ (by omega))
   grind [KC,List.ext_getElem,cP,aF,dB]
  ·rw[aA (show(!decide ((x.2.2.2.1.length:Int)=(y.2.2.2.1.length:Int)))=true by grind),dE fun e=>hl (by rw[e])]
   rfl
 ·rw[dE hp,aA (show(!false)=true by rfl),aM,aA rfl,dE fun e=>hp (by rw[e])]
  rfl
def Fw(A:List In):Prop:=A.length≤4000∧∀x∈A,x.2.2.2.1.length≤1000
theorem TF(hA:Fw A)(x:In):f14 A x=some (decide (x∈A)):=by
 have hM:aH=140737488355328:=rfl
 have hl:=hA.1
 have key:=DC (L:=GZ) rfl A.length (fun i=>(A,(i:Int),x)) () (fun i=>nth br A (i:Int)≠x) (fun r:Bool=>r=true∧x∈A) (by
  intro rec i hi
  have hm:=fU hi
  dsimp only
  rw[cH (by omega),eA i,aA (by omega),cP (t:=br) hi,TE _ x (hA.2 _ hm),aM,bk (by omega)]
  by_cases he:A[i]=x
  ·rw[cH he]
   exact Or.inr ⟨true,⟨rfl,he▸hm⟩,rfl⟩
  grind) (by
  grind) iZ (wZ (by omega))
 unfold f14
 rcases key with⟨h1,h2⟩|⟨r,⟨h1,h1'⟩,h2⟩
 ·have h2:GZ iZ (A,0,x)=_:=h2
  rw[h2,aF,dE]
  intro hx
  obtain⟨i,hi,e⟩:=jZ hx
  simp_all[cP]
 grind [dB]
section
variable{w:bz} {P:Ze} {l:List Sp} {d b a:Int}
theorem KT(hs:SS w.1.1)(P:Ze)(l:List Sp):∃r,f8 w P l=some r∧(r=true→FT w.1.1∧w.2.1.length≤60∧P.length≤4∧l.length≤30):=by
 obtain⟨r,e,hr⟩:=NY w hs
 unfold f8
 grind
end
section
variable{G:In→Prop} {look:Pl→Qy Rs} {O:Pl→An}
theorem mE{ch:List In→Qy (Bool×List In)}{a o:Int}{l:List In}{N:Nat}(hG:∀c:Nat,c<N→((look (a,(o,((c:Int),())))).run O).1.2.2.2.1=true→G ((look (a,(o,((c:Int),())))).run O).1.1)(hch:∀x,G x→((ch (l++[x])).run O).1.1=true→∀y∈((ch (l++[x])).run O).1.2,G y):∀n c,c+n≤N→((gS look ch a o l n c).run O).1.1=true→∀x∈((gS look ch a o l n c).run O).1.2,G x
 |0,_,_,h=>by trivial
 |
  n+1,c,hc,h=>by
  unfold gS at h ⊢
  rw[Qy.run_bind] at h ⊢
  dsimp only at h ⊢
  split at h
  ·rename_i hx
   rw[aA hx]
   rw[Qy.run_bind] at h ⊢
   dsimp only at h ⊢
   split at h
   ·rename_i hy
    rw[aA hy]
    exact hch _ (hG c (by omega) hx) hy
   ·rename_i hy
    rw[aC hy]
    exact mE hG hch n (c+1) (by omega) h
  ·rename_i hx
   rw[aC hx]
   exact mE hG hch n (c+1) (by omega) h
theorem qo{s:cu}{m:DM}{u:Ru}{p:Int}(hG:∀v∈u.2.2.1,∀o:Int,∀c:Nat,c<cn m v.2.2.1→((look (v.2.2.1,(o,((c:Int),())))).run O).1.2.2.2.1=true→G ((look (v.2.2.1,(o,((c:Int),())))).run O).1.1):∀n l,l.length+n=u.2.2.1.length→(∀x∈l,G x)→((cM look s m u p n l).run O).1.1=true→∀x∈((cM look s m u p n l).run O).1.2,G x
 |0,l,_,hl,_=>hl
 |
  n+1,l,hn,hl,h=>by
  unfold cM at h ⊢
  have hv:=dc (t:=aQ) (l:=u.2.2.1) (dH l.length) (show(l.length:Int)<(u.2.2.1.length:Int) by omega)
  refine mE (hG _ hv _) (fun x hx hy=>?_) _ 0 (by omega) h
  refine qo hG n (l++[x]) (by rw[kj,kD];omega) (fun y hy=>?_) hy<;>grind
theorem mF{ch:Ru→Qy (Bool×List In)}{bd:Ru→List In→In}{R:List Ru}{a:Int}:∀n c,c+n≤R.length→((eJ ch bd R a n c).run O).1.2.2.2.1=true→∃u∈R,u.2.1=a∧((ch u).run O).1.1=true∧((eJ ch bd R a n c).run O).1.2.2.1=((ch u).run O).1.2
 |0,_,_,h=>by trivial
 |
  n+1,c,hc,h=>by
  unfold eJ at h ⊢
  split at h
  ·rename_i hu
   rw[aA hu]
   rw[Qy.run_bind] at h ⊢
   dsimp only at h ⊢
   split at h
   ·rename_i hy
    rw[aA hy]
    exact⟨_,dc (t:=bG) (l:=R) (dH c) (by omega),hu,hy,rfl⟩
   ·rename_i hy
    rw[aC hy]
    exact mF n (c+1) (by omega) h
  ·rename_i hu
   rw[aC hu]
   exact mF n (c+1) (by omega) h
end
section
variable{w:bz} {lo P:Ze} {d k:Int}
theorem Oc(hcg:CG w.1.1 lo){s:Sp}{x:In}(h:x∈I9 w lo d k s):∃q:Pl,((LL w lo 0 q).run (Oa w d k)).1.2.2.2.1=true∧x=((LL w lo 0 q).run (Oa w d k)).1.1∧0≤q.2.2.1∧q.2.2.1<(cn (dM w) q.1:Int)∧lo.idxOf q.1<lo.idxOf s.2.1:=by
 unfold I9 at h
 have e:LL w lo 0=LQ w.1.1 (dM w) lo:=aA rfl
 split at h
 ·rename_i hi
  have hm:aP (.int .i64) .bool s.2.1 (aX (dM w))=true:=by
   simp_all[rX]
  rw[e]
  rw[e,Cr hcg.rk.pre] at h
  unfold jA at h
  rw[aA (show aP (.int .i64) .bool ((s.2.1,(s.2.2.1,((0:Int),()))):Pl).1 (aX (dM w))=true from hm)] at h
  rcases rY (ch:=fun u=>cM (LQ w.1.1 (dM w) lo) w.1.1 (dM w) u ((s.2.1,(s.2.2.1,((0:Int),()))):Pl).2.1 u.2.2.1.length []) (bd:=fun u l=>i6 w.1.1 u ((s.2.1,(s.2.2.1,((0:Int),()))):Pl).2.1 l) (R:=w.1.1.2.2.2.1) (a:=((s.2.1,(s.2.2.1,((0:Int),()))):Pl).1) (O:=Oa w d k) w.1.1.2.2.2.1.length 0 with fW|hz
  ·obtain⟨u,hu,hua,hc,hfr⟩:=mF _ 0 (by omega) fW
   rw[hfr] at h
   exact qo (G:=fun x=>∃q:Pl,((LQ w.1.1 (dM w) lo q).run (Oa w d k)).1.2.2.2.1=true∧x=((LQ w.1.1 (dM w) lo q).run (Oa w d k)).1.1∧0≤q.2.2.1∧q.2.2.1<(cn (dM w) q.1:Int)∧lo.idxOf q.1<lo.idxOf s.2.1) (fun v hv o c hcN hk=>⟨_,hk,rfl,dH c,by grind,by
    have:=hcg.rk.pre u hu v hv
    grind⟩) _ [] (by simp) (fun x hx=>by cases hx) hc x h
  ·rw[hz] at h
   cases h
 grind
theorem Hk{a p:Int}(i:Nat)(h:(Fv (Oa w d k) (LL w lo 0) true (dM w) a p d (i:Int)).1=true):∀(n c:Nat),c≤i→i<c+n→(Fv (Oa w d k) (LL w lo 0) true (dM w) a p d (i:Int)).2∈((uE (LL w lo 0) true (dM w) a p d n c).run (Oa w d k)).1
 |0,_,_,_=>by omega
 |
  n+1,c,h1,h2=>by
  rw[qk]
  dsimp only
  by_cases e:c=i
  ·grind
  ·have ih:=Hk i h n (c+1) (by omega) (by omega)
   split
   ·exact dj _ ih
   ·exact ih
theorem Hl{p:Int}(a i:Nat)(h:(Fv (Oa w d k) (LL w lo 0) true (dM w) (a:Int) p d (i:Int)).1=true)(hi:i<cn (dM w) (a:Int)):∀(n c:Nat),c≤a→a<c+n→(Fv (Oa w d k) (LL w lo 0) true (dM w) (a:Int) p d (i:Int)).2∈((uF (LL w lo 0) true (dM w) p d n c).run (Oa w d k)).1
 |0,_,_,_=>by omega
 |
  n+1,c,h1,h2=>by
  rw[mB]
  dsimp only
  by_cases e:c=a
  ·simp_all[Hk]
  ·exact kE _ (Hl a i h hi n (c+1) (by omega) (by omega))
theorem Od(hcg:CG w.1.1 lo)(hvp:VP P d){s:Sp}{x:In}(h:x∈I9 w lo d k s):lo.idxOf x.1<lo.idxOf s.2.1∧(x.2.1∈P→x∈CL w lo P d k):=by
 obtain⟨q,h1,h2,h3,h4,h5⟩:=Oc hcg h
 have hm0:aP (.int .i64) .bool q.1 (aX (dM w))=true→q.2.2.1=0:=fun hm=>by
  unfold cn at h4
  grind
 have hpl:=Sn hcg hm0 h1
 rw[←h2] at hpl
 have e1:x.1=q.1:=(Prod.mk.inj hpl).1
 have e2:x.2.1=q.2.1:=(Prod.mk.inj (Prod.mk.inj hpl).2).1
 refine⟨by grind,fun hp=>?_⟩
 have hql:q.1∈lo:=List.idxOf_lt_length_iff.1 (oO h5 List.idxOf_le_length)
 obtain⟨r0,r1⟩:=(hcg.rk.all _).1 hql
 obtain⟨p0,p1⟩:=hvp.Ch _ hp
 rw[e2] at p0 p1 hp
 obtain⟨d0,d1⟩:=hvp.day
 have ea:((q.1.toNat:Nat):Int)=q.1:=by omega
 have ei:((q.2.2.1.toNat:Nat):Int)=q.2.2.1:=by omega
 have hq:((q.1,(q.2.1,(q.2.2.1,()))):Pl)=q:=rfl
 have hlk:ui true (dM w) q.1 q.2.1 d q.2.2.1=true:=by
  unfold ui rX
  grind
 have hFv:Fv (Oa w d k) (LL w lo 0) true (dM w) q.1 q.2.1 d q.2.2.1=(true,x):=by
  simp_all[Fv]
 have key:=Hl (w:=w) (lo:=lo) (d:=d) (k:=k) (p:=q.2.1) q.1.toNat q.2.2.1.toNat (by grind) (by grind) w.1.1.2.2.1.length 0 (gW _) (by omega)
 rw[ea,ei,hFv] at key
 exact List.mem_flatMap.2 ⟨q.2.1,hp,key⟩
end
section
variable{w:bz} {P:Ze} {l:List Sp} {d b a:Int}
theorem Oe(hs:SA w.1.1)(hT:FT w.1.1)(hf:w.2.1.length≤60)(hP:P.length≤4)(hck:CK w P d b a l){s:Sp}(h:s∈l)(h1:s.1=1):(I9 w w.1.2.1 d a s).length≤3:=by
 rcases lh hs hT hf hP d b a with h0|⟨_,hcg,er,o,ix,fo,se,rs,e1,_,hvp,hI,hix⟩
 ·exact absurd (h0 b a).1 hck.ok
 ·rcases KR.1 (hck.all.mem_iff.1 h) with⟨q1,_⟩|⟨_,q2⟩
  ·omega
  ·obtain⟨x,hx,ex⟩:=List.mem_map.1 q2
   obtain⟨g1,g2,g3,_⟩:=CA hcg x (iN.1 hx).1
   obtain⟨_,_,_,_,_,_,hl⟩:=Sv (s:=s) hs hT hf hcg hP (by rw[←ex];exact g1) (by rw[←ex];exact g2) (by rw[←ex];exact g3) hix hI
   exact hl
theorem EF(hs:SA w.1.1)(hT:FT w.1.1)(hf:w.2.1.length≤60)(hP:P.length≤4)(hll:l.length≤1000)(hck:CK w P d b a l):
 xT (Int.toNat (l.length:Int)+1) (P,d,b,a,l,l,(l.length:Int),0,w)=some (.brk ()):=by
 have hM:aH=140737488355328:=rfl
 have hO:=oN (d:=d) (k:=b) hs hT hf hck.cg hck.er hP hck.vp.jf
 have hN:=oN (d:=d) (k:=a) hs hT hf hck.cg hck.er hP hck.vp.jf
 suffices hW:W (xT (Int.toNat (l.length:Int)+1) (P,d,b,a,l,l,(l.length:Int),0,w)) fun r=>r= .brk () by
  obtain⟨r,e,hr⟩:=hW
  grind
 refine bW (L:=xT) rfl _ l.length (fun c(_:Unit)=>(P,d,b,a,l,l,(l.length:Int),(c:Int),w)) (fun _ _=>True) ?step ?stop _ 0 () (by omega) (by omega) trivial
 case step=>
  intro rec c _ hc _ kk
  dsimp only
  have go:W (rec (P,d,b,a,l,l,(l.length:Int),bp ((c:Int)+(1:Int)),w)) fun r=>r= .brk ():=by
   rw[bk (by omega)]
   simp_all
  rw[cH (by omega),eA c,aA (by omega),cP (t:=bB) hc]
  by_cases h1:l[c].1=1
  ·rw[aC (show¬(!decide (l[c].1=(1:Int)))=true by simp[h1])]
   obtain⟨x,eb,hx⟩:=ab4 hs hT hf hck.er (fun _=>hck.cg) l[c].2.1 l[c].2.2.1 d a
   have hfr:x.2.2.1=I9 w w.1.2.1 d a l[c]:=by
    rw[hx]
    unfold I9
    show(if rX true (dM w) l[c].2.1 l[c].2.2.1 d=true then _ else zR).2.2.1=_
    split<;>rfl
   rw[eb,aM]
   dsimp only
   by_cases fW:x.2.2.2.1=true
   ·rw[fW,aC (show¬(!true)=true by decide),eA c,aA (by omega)]
    have ecut:oj l 0 (Int.toNat (c:Int))=l.take c:=rfl
    obtain⟨X,eX,hX⟩:=ab5 (l:=l.take c) hs hT hf hP (by grind) hck.ok
    rw[ecut,eX,aM,hfr]
    have hXsub:∀y∈X,y∈CL w w.1.2.1 P d b∨y∈CL w w.1.2.1 P d a:=fun y hy=>TC (hX.mem_iff.1 hy)
    have fX:Fw X:=⟨by
     have h1:=hX.length_eq
     unfold XV at h1
     rw[kj] at h1
     have h2:=tC (fun x=> !(decide (((2:Int),bR x)∈l.take c)&& !decide (x∈CL w w.1.2.1 P d a))) (CL w w.1.2.1 P d b)
     have h3:=tC (fun x=>decide (((1:Int),bR x)∈l.take c)) (lZ (CL w w.1.2.1 P d a) (CL w w.1.2.1 P d b))
     have h4:=(hN.lZ (CL w w.1.2.1 P d b)).len
     have h5:=hO.len
     omega,fun y hy=>(hXsub y hy).elim (hO.Ag y) (hN.Ag y)⟩
    have hin:∀y∈I9 w w.1.2.1 d a l[c],y.2.1∈P→y∈X:=fun y hy hp=>by
     have hyN:=(Od hck.cg hck.vp hy).2 hp
     refine hX.mem_iff.2 ?_
     unfold XV
     rw[i7,List.mem_filter,List.mem_filter]
     by_cases hyO:y∈CL w w.1.2.1 P d b
     ·grind
     ·have hd:=iN.2 ⟨hyN,hyO⟩
      exact Or.inr ⟨hd,cQ (hck.od c hc hc h1 y hy (List.mem_map.2 ⟨y,hd,rfl⟩))⟩
    generalize hB:I9 w w.1.2.1 d a l[c]=B at hin
    have hBl:B.length≤3:=by grind [Oe]
    have e17:G1 (Int.toNat (List.length B:Int)+1) (P,d,b,a,l,X,l,(l.length:Int),(c:Int),B,(List.length B:Int),0,w)=some (.brk (P,d,b,a,l,l,(l.length:Int),(c:Int),w)):=by
     rcases DC (L:=G1) rfl B.length (fun i=>(P,d,b,a,l,X,l,(l.length:Int),(c:Int),B,(List.length B:Int),(i:Int),w)) (P,d,b,a,l,l,(l.length:Int),(c:Int),w) (fun _=>True) (fun _=>False) (by
      intro rec2 i hi
      have hm:=fU hi
      dsimp only
      rw[cH (by omega),eA i,aA (by omega),cP (t:=br) hi]
      have e21:∃y,G0 (Int.toNat (List.length P:Int)+1) (P,d,b,a,l,X,false,l,(l.length:Int),(c:Int),B,(List.length B:Int),(i:Int),P,(List.length P:Int),0,w,B[i])=some (.brk (P,d,b,a,l,X,y,l,(l.length:Int),(c:Int),B,(List.length B:Int),(i:Int),w,B[i]))∧(y=true→B[i].2.1∈P):=by
       obtain⟨r,e,y,hr,hy⟩:=bW (L:=G0) rfl (fun r=>∃y,r= .brk (P,d,b,a,l,X,y,l,(l.length:Int),(c:Int),B,(List.length B:Int),(i:Int),w,B[i])∧(y=true→B[i].2.1∈P)) P.length (fun j(y:Bool)=>(P,d,b,a,l,X,y,l,(l.length:Int),(c:Int),B,(List.length B:Int),(i:Int),P,(List.length P:Int),(j:Int),w,B[i])) (fun _ y=>y=true→B[i].2.1∈P) (by
        intro al4 j y hj hy kk3
        dsimp only
        rw[cH (by omega),eA j,aA (by omega),cP (t:=.int .i64) hj,bk (by omega)]
        grind) (by
        intro al4 y hy
        dsimp only
        rw[aC (by grind)]
        exact⟨_,rfl,y,rfl,hy⟩) (Int.toNat (List.length P:Int)+1) 0 false (by omega) (by omega) (fun h=>by cases h)
       grind
      obtain⟨y,e,hy⟩:=e21
      rw[e,aF]
      dsimp only
      refine Or.inl ⟨trivial,?_⟩
      cases y with
      |
       false=>
       rw[aC (by decide),aM,aC (by decide),aF]
       grind [bk]
      |
       true=>
       rw[aA rfl,TF fX,aM,cQ (hin _ hm (hy rfl)),aM,aC (by decide),aF]
       grind [bk]) (by
      grind) (Int.toNat (List.length B:Int)+1) (by omega) with⟨_,h2⟩|⟨r,h1,_⟩
     ·exact h2
     grind
    rw[e17,aF]
    exact go
   simp_all[aF]
  ·rw[aA (show(!decide (l[c].1=(1:Int)))=true by simp[h1]),aF]
   exact go
 case stop=>
  intro rec _ _
  dsimp only
  rw[aC (by grind)]
  exact⟨_,rfl,rfl⟩
end
section
variable{w:bz} {o:Ze}
def od(o:Ze)(a:Int):Int:=nth (.int .i64) o a
theorem KU(ho:OV w o){a:Int}(h:a∈w.1.2.1):od o a=(w.1.2.1.idxOf a:Int):=by
 have h2:=List.idxOf_lt_length_iff.2 h
 have:=ho.2 _ h2
 rw[List.getElem_idxOf] at this
 trivial
def sc(g:Int)(o:Ze)(x y:Sp):Int:=if g*mC (od o x.2.1) (od o y.2.1)≠0 then g*mC (od o x.2.1) (od o y.2.1) else if mC x.2.2.1 y.2.2.1≠0 then mC x.2.2.1 y.2.2.1 else mC x.2.2.2.1 y.2.2.2.1
theorem yE{g:Int}(hg:g=1∨g= -1)(x y:Sp):sc g o x y<0↔g*od o x.2.1<g*od o y.2.1∨od o x.2.1=od o y.2.1∧(x.2.2.1<y.2.2.1∨x.2.2.1=y.2.2.1∧x.2.2.2.1<y.2.2.2.1):=by
 unfold sc mC
 grind
def Rg(o:Ze)(x:Sp):Prop:=0≤x.2.1∧x.2.1<(o.length:Int)
theorem CI{g:Int}(hg:g=1∨g= -1)(m1 m2:Option (List (Pl×In)))(x y:Sp):(Rg o x∧Rg o y∧fZ x y g o m1 m2=some (sc g o x y))∨(¬(Rg o x∧Rg o y)∧fZ x y g o m1 m2=none):=by
 unfold fZ Rg
 by_cases h1:0≤x.2.1
 ·by_cases h2:x.2.1<(o.length:Int)
  ·by_cases h3:0≤y.2.1
   ·by_cases h4:y.2.1<(o.length:Int)
    ·refine Or.inl ⟨⟨h1,h2⟩,⟨h3,h4⟩,?_⟩
     have hw:∀u v:Int,bp (g*mC u v)=g*mC u v:=fun u v=>by
      unfold mC
      rcases hg with rfl|rfl<;>(repeat' split)<;>rfl
     rw[aA h1,aA h2,aA h3,aA h4,nN,aM,nN,aM,nN,aM,hw,or3]
     rfl
    grind
   grind
  grind
 grind
theorem yF(hcg:CG w.1.1 w.1.2.1)(ho:OV w o){g:Int}(hg:g=1∨g= -1)(m1 m2:Option (List (Pl×In))){k:Int}{A:List In}(hA:(A.map bR).Nodup)(hr:∀x∈A,0≤x.1∧x.1<(w.1.1.2.2.1.length:Int)):
 ∃ys,xG g o m1 m2 ((A.map bR).map fun p=>((k,p):Sp))=some ys∧ys.Perm ((A.map bR).map fun p=>((k,p):Sp))∧ys.Pairwise fun x y=>¬sc g o y x<0:=by
 have hrg:∀x∈(A.map bR).map fun p=>((k,p):Sp),Rg o x∧x.2.1∈w.1.2.1:=fun x hx=>by
  obtain⟨p,hp,rfl⟩:=List.mem_map.1 hx
  obtain⟨y,hy,rfl⟩:=List.mem_map.1 hp
  obtain⟨h1,h2⟩:=hr y hy
  exact⟨⟨h1,by rw[ho.1];exact h2⟩,(hcg.rk.all _).2 ⟨h1,h2⟩⟩
 have gd:∀x y,(fZ x y g o m1 m2).getD 0<0↔Rg o x∧Rg o y∧sc g o x y<0:=fun x y=>by
  rcases CI hg m1 m2 x y with⟨h1,h2,e⟩|⟨h,e⟩
  ·rw[e]
   exact⟨fun h=>⟨h1,h2,h⟩,fun h=>h.2.2⟩
  ·rw[e]
   exact⟨fun h'=>absurd h' (by decide),fun h'=>absurd ⟨h'.1,h'.2.1⟩ h⟩
 obtain⟨e,hch⟩:=Dh (c:=fun x y=>fZ x y g o m1 m2) (fun x=>by
  show¬(fZ x x g o m1 m2).getD 0<0
  rw[gd,yE hg];omega) (fun x y z=>by
  show(fZ x y g o m1 m2).getD 0<0→(fZ y z g o m1 m2).getD 0<0→(fZ x z g o m1 m2).getD 0<0
  rw[gd,gd,gd,yE hg,yE hg,yE hg]
  grind) (xs:=(A.map bR).map fun p=>((k,p):Sp)) (fun x hx y hy=>by
  rcases CI hg m1 m2 x y with⟨_,_,e⟩|⟨h,_⟩
  ·exact⟨_,e⟩
  ·exact absurd ⟨(hrg x hx).1,(hrg y hy).1⟩ h) (by
  refine(List.pairwise_iff_forall_sublist.2 fun{x y} hs=>?_)
  show(fZ x y g o m1 m2).getD 0<0∨(fZ y x g o m1 m2).getD 0<0
  have hx:=hs.subset (cm ..)
  have hy:=hs.subset (dj _ (cm ..))
  have hne:x≠y:=fun e=>by
   grind [Am]
  rw[gd,gd,yE hg,yE hg]
  obtain⟨r1,l1⟩:=hrg x hx
  obtain⟨r2,l2⟩:=hrg y hy
  by_cases ho2:od o x.2.1=od o y.2.1
  ·have hsx:x.2.1=y.2.1:=by
    rw[KU ho l1,KU ho l2] at ho2
    have h2:w.1.2.1.idxOf x.2.1=w.1.2.1.idxOf y.2.1:=by omega
    have h3:=List.getElem_idxOf (List.idxOf_lt_length_iff.2 l1)
    grind
   grind
  grind)
 refine⟨kM (HC fun x y=>fZ x y g o m1 m2) ((A.map bR).map fun p=>((k,p):Sp)),?_,dn,?_⟩
 ·unfold xG Gv
  grind
 ·refine(List.pairwise_iff_forall_sublist.2 fun{x y} hs=>?_)
  have hx:=dn.mem_iff.1 (hs.subset (cm ..))
  have hy:=dn.mem_iff.1 (hs.subset (dj _ (cm ..)))
  have h1:=List.pairwise_iff_forall_sublist.1 (wC hch) hs
  have h1:¬(fZ y x g o m1 m2).getD 0<0:=of_decide_eq_false h1
  grind
end
section
variable{w:bz} {P:Ze} {d b a:Int}
theorem Of(hs:SA w.1.1)(hT:FT w.1.1)(hf:w.2.1.length≤60)(hP:P.length≤4)(d b a:Int):
 ((∀b a,fv w P d b a=none∧iM w P d b a=some false)∧f9 w P d b a=some [])∨
 (fv w P d b a≠none∧CG w.1.1 w.1.2.1∧f44 w.1=some 0∧VP P d∧∃o L1 L2,OV w o∧f9 w P d b a=some (L1++L2)∧L1.Perm (((lZ (CL w w.1.2.1 P d a) (CL w w.1.2.1 P d b)).map bR).map fun p=>(((1:Int),p):Sp))∧L2.Perm (((lZ (CL w w.1.2.1 P d b) (CL w w.1.2.1 P d a)).map bR).map fun p=>(((2:Int),p):Sp))∧L1.Pairwise fun x y=>¬sc 1 o y x<0):=by
 have hM:aH=140737488355328:=rfl
 unfold f9 M7 M8
 rcases lh hs hT hf hP d b a with h0|⟨e2,hcg,er,o,ix,fo,se,rs,e1,hov,hvp,_,_⟩
 ·obtain⟨e1,e2⟩:=h0 b a
  rw[e1,e2]
  exact Or.inl ⟨h0,rfl⟩
 ·have hO:=oN (d:=d) (k:=b) hs hT hf hcg er hP hvp.jf
  have hN:=oN (d:=d) (k:=a) hs hT hf hcg er hP hvp.jf
  refine Or.inr ⟨by grind,hcg,er,hvp,?_⟩
  rw[e1,e2,aM,nL hcg hvp.jf,nL hcg hvp.jf]
  have hOr:=fun(x:In)(hx:x∈CL w w.1.2.1 P d b)=>CA hcg x hx
  have hNr:=fun(x:In)(hx:x∈CL w w.1.2.1 P d a)=>CA hcg x hx
  generalize CL w w.1.2.1 P d b=O at hO hOr ⊢
  generalize CL w w.1.2.1 P d a=N at hN hNr ⊢
  dsimp only
  rw[aC (by decide)]
  obtain⟨ST,es,hS⟩:=gD hO hN
  obtain⟨FR,ef,hF⟩:=gD hN hO
  have cS:=(hO.lZ N).perm hS
  have cF:=(hN.lZ O).perm hF
  have lS:=cS.len
  have lF:=cF.len
  unfold nG nF
  rw[ef,aM,aM]
  dsimp only
  have e6:xH (Int.toNat (List.length FR:Int)+1) (FR,(List.length FR:Int),0,o,w,some ix,d,a,true,dM w,(),some (O.map pr),some (N.map pr),rs,fo,se,([]:List Sp))=some (.brk (o,w,some ix,d,a,true,dM w,(),some (O.map pr),some (N.map pr),rs,fo,se,(FR.map bR).map fun p=>(((1:Int),p):Sp))):=by
   obtain⟨r,e,hr⟩:=bW (L:=xH) rfl (fun r=>r= .brk (o,w,some ix,d,a,true,dM w,(),some (O.map pr),some (N.map pr),rs,fo,se,(FR.map bR).map fun p=>(((1:Int),p):Sp))) FR.length (fun c(s:List Sp)=>(FR,(FR.length:Int),(c:Int),o,w,some ix,d,a,true,dM w,(),some (O.map pr),some (N.map pr),rs,fo,se,s)) (fun c s=>s=((FR.take c).map bR).map fun p=>(((1:Int),p):Sp)) (by
    intro rec c s hc hs2 kk
    have hsl:s.length≤100:=by rw[hs2,jC,jC,l6];omega
    dsimp only
    rw[cH (by omega),eA c,aA (by omega),cP (t:=br) hc,bk (by omega)]
    show W (Option.bind (some (((1:Int),bR FR[c]):Sp)) _) _
    rw[aM,aA (by simp only[kD];omega)]
    refine kk _ ?_
    rw[List.take_succ_eq_append_getElem hc,fV,fV,hs2]
    rfl) (by
    intro rec s hs2
    dsimp only
    rw[aC (by grind)]
    refine⟨_,rfl,?_⟩<;>grind) (Int.toNat (List.length FR:Int)+1) 0 [] (by omega) (by omega) rfl
   grind
  rw[e6,aF]
  dsimp only
  rw[es,aM,aM]
  dsimp only
  generalize hL1:((FR.map bR).map fun p=>(((1:Int),p):Sp))=K1
  have e11:sX (Int.toNat (List.length ST:Int)+1) (ST,(List.length ST:Int),0,o,w,some ix,d,a,true,dM w,(),some (O.map pr),some (N.map pr),rs,fo,se,K1,([]:List Sp))=some (.brk (o,w,some ix,d,a,true,dM w,(),some (O.map pr),some (N.map pr),rs,fo,se,K1,(ST.map bR).map fun p=>(((2:Int),p):Sp))):=by
   obtain⟨r,e,hr⟩:=bW (L:=sX) rfl (fun r=>r= .brk (o,w,some ix,d,a,true,dM w,(),some (O.map pr),some (N.map pr),rs,fo,se,K1,(ST.map bR).map fun p=>(((2:Int),p):Sp))) ST.length (fun c(s:List Sp)=>(ST,(ST.length:Int),(c:Int),o,w,some ix,d,a,true,dM w,(),some (O.map pr),some (N.map pr),rs,fo,se,K1,s)) (fun c s=>s=((ST.take c).map bR).map fun p=>(((2:Int),p):Sp)) (by
    intro rec c s hc hs2 kk
    have hsl:s.length≤100:=by rw[hs2,jC,jC,l6];omega
    dsimp only
    rw[cH (by omega),eA c,aA (by omega),cP (t:=br) hc,bk (by omega)]
    show W (Option.bind (some (((2:Int),bR ST[c]):Sp)) _) _
    rw[aM,aA (by simp only[kD];omega)]
    refine kk _ ?_
    rw[List.take_succ_eq_append_getElem hc,fV,fV,hs2]
    rfl) (by
    intro rec s hs2
    dsimp only
    rw[aC (by grind)]
    refine⟨_,rfl,?_⟩<;>grind) (Int.toNat (List.length ST:Int)+1) 0 [] (by omega) (by omega) rfl
   grind
  rw[e11,aF]
  dsimp only
  obtain⟨L1,s1,p1,w1⟩:=yF (k:=1) (A:=FR) hcg hov (Or.inl rfl) (some (O.map pr)) (some (N.map pr)) cF.nd fun x hx=>by
   grind [iN]
  obtain⟨L2,s2,p2,_⟩:=yF (k:=2) (A:=ST) hcg hov (Or.inr rfl) (some (O.map pr)) (some (N.map pr)) cS.nd fun x hx=>by
   grind [iN]
  have l1:=p1.length_eq
  have l2:=p2.length_eq
  rw[jC,jC] at l1 l2
  rw[←hL1,s1,aM,s2,aM,aA (by omega)]
  exact⟨o,L1,L2,hov,rfl,p1.trans ((hF.map bR).map _),p2.trans ((hS.map bR).map _),w1⟩
end
theorem W3{s:cu}(h:wf iK s):SA s where
 ss:=
  {oI:=h.1.2.1
   nI:=h.2.1.2.1
   dp:=h.2.2.1.2.1
   rules:=h.2.2.2.1.2.1
   iY:=h.2.2.2.2.1.2.1
   fh:=h.2.2.2.2.2.1.2.1
   fields:=fun x hx=>⟨(h.2.2.1.2.2 x hx).2.2.2.2.1.2.1,fun f hf=>((h.2.2.1.2.2 x hx).2.2.2.2.1.2.2 f hf).2.1.2.2.2.2.2.1.2.1⟩
   B6:=fun x hx=>⟨(h.2.2.1.2.2 x hx).2.2.2.2.2.1.2.1,fun d hd=>⟨((h.2.2.1.2.2 x hx).2.2.2.2.2.1.2.2 d hd).1.2.1,((h.2.2.1.2.2 x hx).2.2.2.2.2.1.2.2 d hd).2.2.1.2.1⟩⟩
   rl:=fun r hr=>⟨(h.2.2.2.1.2.2 r hr).2.2.1.2.1,(h.2.2.2.1.2.2 r hr).2.2.2.1.2.1,(h.2.2.2.1.2.2 r hr).2.2.2.2.1.2.1⟩
   mv:=fun c hc=>(h.2.2.2.2.1.2.2 c hc).2.2.2.2.1.2.1
   may:=fun p hp=>(h.2.2.2.2.2.1.2.2 p hp).2.1.2.1}
 bs:=
  {oI:=h.1.1
   nI:=h.2.1.1
   dp:=h.2.2.1.1
   rules:=h.2.2.2.1.1
   iY:=h.2.2.2.2.1.1
   fh:=h.2.2.2.2.2.1.1
   sch:=fun x hx=>⟨(h.2.2.1.2.2 x hx).2.2.2.2.1.1,(h.2.2.1.2.2 x hx).2.2.2.2.2.1.1,fun d hd=>((h.2.2.1.2.2 x hx).2.2.2.2.2.1.2.2 d hd).1.1⟩
   rl:=fun r hr=>⟨(h.2.2.2.1.2.2 r hr).2.2.1.1,(h.2.2.2.1.2.2 r hr).2.2.2.1.1,(h.2.2.2.1.2.2 r hr).2.2.2.2.1.1⟩
   cv:=fun c hc=>(h.2.2.2.2.1.2.2 c hc).2.2.2.2.1.1
   pu:=fun p hp=>(h.2.2.2.2.2.1.2.2 p hp).2.1.1}
 sw:=
  {nI:=h.2.1.2.1
   dp:=h.2.2.1.2.1
   rules:=h.2.2.2.1.2.1
   fh:=h.2.2.2.2.2.1.2.1
   nb:=fun x hx=>⟨(h.2.2.1.2.2 x hx).2.2.2.2.1.2.1,fun f hf=>((h.2.2.1.2.2 x hx).2.2.2.2.1.2.2 f hf).2.1.2.2.2.2.2.1.2.1⟩
   rl:=fun r hr=>⟨(h.2.2.2.1.2.2 r hr).2.2.1.2.1,(h.2.2.2.1.2.2 r hr).2.2.2.1.2.1,(h.2.2.2.1.2.2 r hr).2.2.2.2.1.1⟩
   may:=fun p hp=>(h.2.2.2.2.2.1.2.2 p hp).2.1.2.1}
theorem CJ(w:bz)(hs:SA w.1.1)(P:Ze)(d b a:Int)(l:List Sp)(own:Bool):f5 w P d b a l own=some true:=by
 unfold f5
 rw[Sg,aM,aC (by decide)]
 obtain⟨r,e,hr⟩:=KT (w:=w) hs.ss P l
 rw[e,aM]
 cases r with
 |false=>rfl
 |
  true=>
  obtain⟨hT,hf,hP,hl⟩:=hr rfl
  rw[aC (by decide)]
  have main:∀l:List Sp,l.length≤1000→((f11 w P d b a l).bind fun y5=>if !y5 then(some true) else(aI (U:=Unit) (xT (Int.toNat (l.length:Int)+1) (P,d,b,a,l,l,(l.length:Int),0,w)) fun v6=>some true))=some true:=fun l hl=>by
   obtain⟨r,ec,hc⟩:=Tz (l:=l) hs hT hf hP hl d b a
   rw[ec,aM]
   cases r with
   |false=>rfl
   |
    true=>
    rw[aC (by decide),EF hs hT hf hP hl (hc.1 rfl)]
    rfl
  cases own with
  |
   false=>
   rw[aC (by decide),aF]
   exact main l (by omega)
  |
   true=>
   rw[aA rfl]
   rcases Of hs hT hf hP d b a with⟨_,ep⟩|⟨_,hcg,er,hvp,o,L1,L2,_,ep,p1,p2,_⟩
   ·rw[ep,aM,aF]
    exact main [] (by decide)
   ·rw[ep,aM,aF]
    have hO:=oN (d:=d) (k:=b) hs hT hf hcg er hP hvp.jf
    have hN:=oN (d:=d) (k:=a) hs hT hf hcg er hP hvp.jf
    have l1:=p1.length_eq
    have l2:=p2.length_eq
    have l3:=(hO.lZ (CL w w.1.2.1 P d a)).len
    have l4:=(hN.lZ (CL w w.1.2.1 P d b)).len
    rw[jC,jC] at l1 l2
    exact main _ (by rw[kj];omega)
theorem pl5(a0:bz)(a1:Ze)(a2 a3 a4:Int)(a5:List Sp)(a6:Bool)(af0:wf fF a0)(_af1:wf (.slice 8 (.int .i64)) a1)(_af2:wf (.int .i64) a2)(_af3:wf (.int .i64) a3)(_af4:wf (.int .i64) a4)(_af5:wf (.slice 32 bB) a5)(_af6:wf .bool a6):f5 a0 a1 a2 a3 a4 a5 a6=some true:=
 CJ a0 (W3 af0.1.1) a1 a2 a3 a4 a5 a6
end Go.Proofs.YtpmlkhjpbjnagaaGreat
