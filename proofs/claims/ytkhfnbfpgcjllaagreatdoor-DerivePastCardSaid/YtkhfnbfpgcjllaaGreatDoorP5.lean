/- part -/
import Derived.Test.YtkhfnbfpgcjllaaGreatDoorP1
import Derived.Test.YtkhfnbfpgcjllaaGreatDoorUL
import Derived.Test.YtkhfnbfpgcjllaaGreatDoorA5
import Derived.Test.YtkhfnbfpgcjllaaGreatDoorFO
import Derived.Test.YtkhfnbfpgcjllaaGreatDoorUj
import Derived.Test.YtkhfnbfpgcjllaaGreatDoorUk
import Derived.Test.YtkhfnbfpgcjllaaGreatDoorFR
import Derived.Test.YtkhfnbfpgcjllaaGreatDoorS5
noncomputable section
namespace Go.Proofs.YtkhfnbfpgcjllaaGreatDoor
open Go.Ax
theorem ku{t:ji}{n:Int}(h:Gz t n=some true):t.2.2.2.2.1= -1:=by
 unfold Gz at h
 obtain⟨v,hv,h⟩:=bind_some h
 cases h
 split at hv
 ·split at hv
  ·split at hv
   ·rename_i e;exact bX e
   ·cases hv
  ·cases hv
 ·cases hv
theorem kv{t:ji}{n:Int}(h:Gy t n=some true):t.2.2.2.2.1= -1:=by
 unfold Gy at h
 obtain⟨v,hv,h⟩:=bind_some h
 cases h
 split at hv
 ·split at hv
  ·split at hv
   ·rename_i e;exact bX e
   ·cases hv
  ·cases hv
 ·cases hv
theorem ky{t:ji}{n:Int}(h:Gx t n=some true):t.2.2.2.2.1= -1:=by
 unfold Gx at h
 obtain⟨v,hv,h⟩:=bind_some h
 cases h
 split at hv
 ·split at hv
  ·split at hv
   ·rename_i e;exact bX e
   ·cases hv
  ·cases hv
 ·cases hv
theorem tW{x:Zm}{b:Bool}(h:(Option.bind x fun y=>some y)=some b):x=some b:=by
 cases x with
 |none=>cases h
 |some a=>exact h
theorem iG{c:kN}{t:ji}(h:uj c t=some true):t.2.2.2.2.1<(c.1.2.1.length:Int):=by
 have neg:t.2.2.2.2.1= -1→t.2.2.2.2.1<(c.1.2.1.length:Int):=fun e=>by omega
 by_cases e1:t.1=1
 ·exact(l7 h e1).2
 ·unfold uj at h
  by_cases h1:t.1<1
  ·rw[bZ h1] at h;cases h
  ·by_cases h2:(4:Int)<t.1
   ·rw[aB (by simpa using h1),bQ h2] at h;cases h
   ·rw[aB (by simpa using h1),cD h2,aD,aB (by decide),aC] at h
    dsimp only at h
    rw[aA (by omega),aA (by omega),aB (by omega),aB e1] at h
    by_cases e2:t.1=2
    ·rw[aA e2] at h;exact neg (ku (tW h))
    ·rw[aB e2] at h
     by_cases e3:t.1=3
     ·rw[aA e3] at h;exact neg (kv (tW h))
     ·rw[aB e3,aA (by omega)] at h;exact neg (ky (tW h))
theorem kz(c:kN)(hN:NB c.1)(r:mZ):∃b y,K3 c r=some (b,y)∧(b=true→y.2.2.2.2.1<(c.1.2.1.length:Int)):=by
 unfold K3
 rcases gz c r.2.2.1 r.2.2.2.1 with⟨hi,e⟩|⟨_,y,e⟩
 ·rw[e,aD]
  dsimp only
  rw[aB (by decide)]
  have hm:=hi.mem
  obtain⟨q,hq⟩:=lB c (nth cM (aP c.1 r.2.2.1) r.2.2.2.1).2.1 ((hN _ hm.1).2 _ hm.2)
  rw[hq,aD]
  cases q with
  |false=>exact⟨false,_,rfl,fun h=>(by cases h)⟩
  |
   true=>
   rw[aB (by decide)]
   have hu:=iG hq
   by_cases h0:0≤(nth cM (aP c.1 r.2.2.1) r.2.2.2.1).2.1.2.2.2.2.1
   ·rw[bZ h0,aA h0,aA hu]
    obtain⟨z,hz⟩:=lC c (nth aZ c.1.2.1 (nth cM (aP c.1 r.2.2.1) r.2.2.2.1).2.1.2.2.2.2.1)
    rw[hz,aD]
    cases z with
    |false=>exact⟨false,_,rfl,fun h=>(by cases h)⟩
    |true=>exact⟨true,_,rfl,fun _=>hu⟩
   ·rw[aB (show¬decide ((0:Int)≤(nth cM (aP c.1 r.2.2.1) r.2.2.2.1).2.1.2.2.2.2.1)=true by simpa using h0)]
    exact⟨true,_,rfl,fun _=>hu⟩
 ·rw[e,aD]
  exact⟨false,_,rfl,fun h=>(by cases h)⟩
theorem k9(s:bD)(hN:NB s)(r:mZ)(n:Int):∃p,f32 s r n=some p:=by
 unfold f32
 obtain⟨b,y,e,hu⟩:=kz (s,()) hN r
 rw[e,aD]
 dsimp only
 cases b with
 |false=>exact⟨_,rfl⟩
 |
  true=>
  rw[aB (by decide)]
  by_cases h1:n<0
  ·rw[bZ h1];exact⟨_,rfl⟩
  ·rw[aB (show¬decide (n<(0:Int))=true by simpa using h1)]
   by_cases h2:(1048576:Int)<n
   ·rw[bQ h2];exact⟨_,rfl⟩
   ·rw[cD h2,aD,aB (by decide),aC]
    dsimp only
    by_cases h0:0≤y.2.2.2.2.1
    ·rw[bZ h0,aA h0,aA (hu rfl)];exact⟨_,rfl⟩
    ·rw[aB (show¬decide ((0:Int)≤y.2.2.2.2.1)=true by simpa using h0)];exact⟨_,rfl⟩
theorem dK(a b c:Int):∃r,vP a b c=some r:=by
 unfold vP
 repeat' (first|exact⟨_,rfl⟩|split)
def FV(s:bD)(PS:Zd)(x:jq)(a:Int):Prop:=x.2.2.2.1.length=(aP s a).length∧∀v∈x.2.2.2.1,v∈PS
structure LI(s:bD)(PS:Zd)(u:eQ)(l:Zp):Prop where
 len:l.length≤u.2.2.1.length
 ok:∀x:Int,0≤x→x<(l.length:Int)→FV s PS (nth bR l x) (nth bE u.2.2.1 x).2.2.1
theorem LI.nil(s:bD)(PS:Zd)(u:eQ):LI s PS u []:=⟨cV _,fun x h0 h1=>by rw[fZ] at h1;omega⟩
theorem LI.push{s:bD}{PS:Zd}{u:eQ}{l:Zp}(h:LI s PS u l){x:jq}(hl:l.length<u.2.2.1.length)(hx:FV s PS x (nth bE u.2.2.1 (l.length:Int)).2.2.1):LI s PS u (l++[x]):=by
 refine⟨by rw[cz,bF];omega,fun j h0 h1=>?_⟩
 rw[cz,bF] at h1
 have e:j=(j.toNat:Int):=by omega
 by_cases hj:j<(l.length:Int)
 ·have h2:=h.ok j h0 hj
  rw[e,cH (t:=bR) (by rw[cz];omega),yV (by omega)]
  rw[e,cH (t:=bR) (by omega)] at h2
  exact h2
 ·have ej:j.toNat=l.length:=by omega
  have ej':j=(l.length:Int):=by omega
  rw[ej',cH (t:=bR) (by rw[cz,bF];omega),uD (cT _)]
  simp only[Nat.sub_self,List.getElem_singleton]
  exact hx
abbrev cR(s:bD)(u:eQ):im:=((s,()),(u,()))
theorem gB{s:bD}{PS:Zd}{u:eQ}{l:Zp}(hL:LI s PS u l){t:gJ}{n:Int}(hn:n≤(l.length:Int))(h:EC (cR s u) t n):
 0≤t.2.2.1∧t.2.2.1<(l.length:Int)∧0≤t.2.2.2.1∧t.2.2.2.1<((nth bR l t.2.2.1).2.2.2.1.length:Int)∧nth (.int .i64) (nth bR l t.2.2.1).2.2.2.1 t.2.2.2.1∈PS:=by
 have hv:t.2.2.1<(l.length:Int):=Int.lt_of_lt_of_le h.v1 hn
 obtain⟨h1,h2⟩:=hL.ok _ h.v0 hv
 have hb:=h.f.b1
 have hb:t.2.2.2.1<((nth bR l t.2.2.1).2.2.2.1.length:Int):=by rw[h1];exact hb
 exact⟨h.v0,hv,h.f.b0,hb,h2 _ (bA (t:=.int .i64) h.f.b0 hb)⟩
theorem pT{s:bD}{PS:Zd}{u:eQ}{l:Zp}(hL:LI s PS u l)(hl:l.length=u.2.2.1.length){t:gJ}(ht:l9 (cR s u) t):
 ∃v,sj t l=some v∧(v∈PS∨t.2.2.1= -1∧v=t.2.2.2.2.1):=by
 unfold sj
 by_cases h:t.2.2.1= -1
 ·rw[bZ h];exact⟨_,rfl,Or.inr ⟨h,rfl⟩⟩
 ·rcases ht with hi|hi
  ·obtain⟨a1,a2,a3,a4,a5⟩:=gB hL (by rw[hl];exact fL _) hi
   rw[aB (show¬decide (t.2.2.1=(-1:Int))=true by simpa using h),aA a1,aA a2,aA a3,aA a4]
   exact⟨_,rfl,Or.inl a5⟩
  ·exact absurd hi h
theorem jx(day:Int){L:Zj}:∀(l:Zj)(s:Nu),(∀f∈l,f∈L)→(s.2=true→s.1∈L)→((l.foldl (fV day) s).2=true→(l.foldl (fV day) s).1∈L)
 |[],s,_,hs=>hs
 |
  f::l,s,hl,hs=>by
  rw[List.foldl_cons]
  refine jx day l _ (fun x hx=>hl x (dF _ hx)) ?_
  unfold fV
  split
  ·exact fun _=>hl f (dx ..)
  ·exact hs
theorem pU{l:Zj}{k:iw}{day known:Int}(h:(fb l k day known).2=true):∃f∈l,f.2.1=(fb l k day known).1:=by
 have hm:=jx day (L:=l) (l.filter (cN k known)) (zF,false) (fun x hx=>(List.mem_filter.1 hx).1) (fun h=>by cases h)
 have e:(l.filter (cN k known)).foldl (fV day) (zF,false)=iJ k day known l (zF,false):=rfl
 rw[e] at hm
 unfold fb at h ⊢
 dsimp only at h ⊢
 split at h
 ·rename_i hc
  rw[aA hc]
  exact⟨_,hm hc.1,rfl⟩
 ·cases h
theorem kA(l:Zj)(k:iw)(day known:Int)(hl:l.length≤aF):∃v b,rM l k day known=some (v,b)∧(b=true→∃f∈l,f.2.1=v):=by
 unfold rM
 rw[aA hl]
 exact⟨_,_,rfl,pU⟩
theorem dL(s:bD)(hr:s.2.2.2.1.length≤aF)(a:Int):∃b,KL s a=some b∧(b=true→0≤a∧a<(s.2.2.1.length:Int)∧2≤(aP s a).length):=by
 have hB:=hB
 have no:∀y:Zm,y=some false→∃r,y=some r∧(r=true→0≤a∧a<(s.2.2.1.length:Int)∧2≤(aP s a).length):=fun y hy=>⟨false,hy,fun h=>(by cases h)⟩
 unfold KL
 by_cases h0:a<0
 ·rw[bZ h0];exact no _ rfl
 ·rw[aB (show¬decide (a<(0:Int))=true by simpa using h0)]
  by_cases h1:(s.2.2.1.length:Int)≤a
  ·rw[bZ h1];exact no _ rfl
  ·rw[aB (show¬decide ((s.2.2.1.length:Int)≤a)=true by simpa using h1),aA (Int.not_lt.1 h0),aA (Int.not_le.1 h1)]
   have e:(nth aR s.2.2.1 a).2.2.2.2.1=aP s a:=rfl
   rw[e]
   by_cases h2:((aP s a).length:Int)<2
   ·rw[bQ h2];exact no _ rfl
   ·rw[cD h2,aD,aB (by decide),aC]
    dsimp only
    have yes:∀y:Zm,(∃z,y=some z)→∃z,y=some z∧(z=true→0≤a∧a<(s.2.2.1.length:Int)∧2≤(aP s a).length):=fun y ⟨z,hz⟩=>⟨z,hz,fun _=>⟨Int.not_lt.1 h0,Int.not_le.1 h1,by omega⟩⟩
    apply yes
    suffices hW:W (aI (U:=Int×Zr) (qw (Int.toNat (List.length s.2.2.2.1:Int)+1) (a,s.2.2.2.1,(List.length s.2.2.2.1:Int),(0:Int),([]:Zr))) (fun x=>some (!(aO (.int .i64) .bool x.1 x.2)))) (fun _=>True) by
     obtain⟨r,hr,_⟩:=hW
     exact⟨r,hr⟩
    refine aY.2 (W.ct (bU (L:=qw) rfl (CT (fun _=>True) fun _=>True) s.2.2.2.1.length (fun c(d:Zr)=>(a,s.2.2.2.1,(s.2.2.2.1.length:Int),(c:Int),d)) (fun c d=>d.length≤c) ?step ?stop _ 0 [] (by omega) (by omega) (cT _)) (fun d h=>⟨_,rfl,trivial⟩) fun r h=>trivial)
    case step=>
     intro rec c d hc hd kk
     dsimp only
     have hw2:=fM c (by omega)
     rw[bZ (by omega),dH c,aA (show(c:Int)<(s.2.2.2.1.length:Int) by omega),aA (show d.length+1≤aF by omega),hw2]
     exact kk _ (cS (dp (kt:=.int .i64)) (by omega))
    case stop=>
     intro rec d hd
     dsimp only
     rw[eG (by omega)]
     exact⟨_,rfl,trivial⟩
theorem kB{PS:Zd}(v:aU)(s:bD)(hN:NB s)(hl:v.2.1.length≤aF)(hPS:∀f∈v.2.1,f.2.1∈PS)(m a p i d k:Int)(rs:Zh)(hr:(rs.length+1)*40≤aF):
 ∃c b rs',ja m a p i d v k s rs=some (c,b,a,p,i,d,v,k,s,rs')∧rs'.length=rs.length+1∧(b=true→c∈PS):=by
 unfold ja O7
 rw[aD,aA (by rw[bF];exact hr)]
 obtain⟨x,b,e,hb⟩:=kA v.2.1 (a,(p,(aV ((aV ((16:Int)*i))+m),()))) d k hl
 rw[e,aD]
 dsimp only
 cases b with
 |false=>exact⟨_,false,_,rfl,by rw[cz,bF],fun h=>(by cases h)⟩
 |
  true=>
  obtain⟨f,hf,rfl⟩:=hb rfl
  obtain⟨q,hq⟩:=jI s hN a m f.2.1
  rw[aA rfl,hq]
  exact⟨_,q,_,rfl,by rw[cz,bF],fun _=>hPS f hf⟩
theorem m9{PS:Zd}(v:aU)(hN:NB v.1.1)(hR:v.1.1.2.2.2.1.length≤aF)(hF:∀a,0≤a→a<(v.1.1.2.2.1.length:Int)→(aP v.1.1 a).length≤1000)(hl:v.2.1.length≤aF)(hPS:∀f∈v.2.1,f.2.1∈PS)(a p i d k:Int)(hp:p∈PS):
 W (mM v a p i d k) fun r=>r.2.2.length≤1000∧(r.1=true→FV v.1.1 PS r.2.1 a):=by
 have hB:=hB
 unfold mM
 obtain⟨b,e,hb⟩:=dL v.1.1 hR a
 rw[e,aD]
 have no:∀(z:jq),(([]:Zh).length≤1000∧((false:Bool)=true→FV v.1.1 PS z a)):=fun z=>⟨cV _,fun h=>(by cases h)⟩
 cases b with
 |false=>exact⟨_,rfl,no _⟩
 |
  true=>
  obtain⟨a0,a1,a2⟩:=hb rfl
  rw[aB (by decide)]
  have hs:∃z,vO p i=some z:=by
   unfold vO
   refine gE ?_ fun v=>⟨v,rfl⟩
   repeat' (first|exact⟨_,rfl⟩|split)
  obtain⟨z,hz⟩:=hs
  rw[hz,aD]
  cases z with
  |false=>exact⟨_,rfl,no _⟩
  |
   true=>
   rw[aB (by decide)]
   by_cases d0:d<0
   ·rw[bZ d0];exact⟨_,rfl,no _⟩
   ·rw[aB (show¬decide (d<(0:Int))=true by simpa using d0)]
    by_cases d1:(1024:Int)≤d
    ·rw[bQ d1];exact⟨_,rfl,no _⟩
    ·rw[cD d1,aD,aB (by decide),aC]
     dsimp only
     have hFa:=hF a a0 a1
     have e:(nth aR v.1.1.2.2.1 a).2.2.2.2.1=aP v.1.1 a:=rfl
     refine aY.2 (W.ct (bU (L:=px) rfl (CT (fun r=>∃t s,r=(a,p,i,(0:Int),(0:Int),(0:Int),t,s)∧s.length≤1000∧t.length=(aP v.1.1 a).length∧∀x∈t,x∈PS) fun r=>r.1=false∧r.2.2.length≤1000) (aP v.1.1 a).length (fun c(u:Zd×Zh)=>((c:Int),v,a,p,i,d,k,(0:Int),(0:Int),(0:Int),v.1.1,u.1,u.2)) (fun c u=>u.1.length=c∧u.2.length≤c∧∀x∈u.1,x∈PS) ?step ?stop dG 1 ([p],[]) (by show _<18446744073709551616;omega) (by omega) ⟨rfl,cV _,fun x hx=>(by rw[List.mem_singleton.1 hx];exact hp)⟩) (fun r h=>?_) fun r h=>?_)
     case step=>
      rintro rec c ⟨t,s⟩ hc ⟨ht,hs,hP⟩ kk
      dsimp only at ht hs hP ⊢
      have hw2:=fM c (by omega)
      rw[e,aA a0,aA a1,bZ (by omega)]
      obtain⟨x,b,s',e2,hs',hx⟩:=kB v v.1.1 hN hl hPS (c:Int) a p i d k s (by omega)
      rw[e2,aD]
      dsimp only
      cases b with
      |false=>exact⟨_,rfl,rfl,by show s'.length≤1000;omega⟩
      |
       true=>
       rw[aB (by decide),aA (show(t.length+List.length [x])*8≤aF by rw[bF];omega),hw2]
       refine kk (t++[x],s') ⟨by rw[cz,bF,ht],by show s'.length≤c+1;omega,fun y hy=>?_⟩
       rcases List.mem_append.1 hy with h|h
       ·exact hP y h
       ·rw[List.mem_singleton.1 h];exact hx rfl
     case stop=>
      rintro rec ⟨t,s⟩ ⟨ht,hs,hP⟩
      dsimp only at ht hs hP ⊢
      rw[e,aA a0,aA a1,eG (by omega)]
      exact⟨_,rfl,t,s,rfl,by omega,ht,hP⟩
     ·obtain⟨t,s,rfl,h1,h2,h3⟩:=h
      exact⟨_,rfl,h1,fun _=>⟨h2,h3⟩⟩
     ·exact⟨h.2,fun h'=>by rw[h.1] at h';cases h'⟩
theorem fG:∀(rs:Zh)(se:Zi)(acc:Zh),se.length+rs.length≤aF→(acc.length+rs.length)*40≤aF→∃s' a',eP rs se acc=some (s',a')∧s'.length≤se.length+rs.length∧a'.length≤acc.length+rs.length
 |[],se,acc,_,_=>⟨se,acc,rfl,cT _,cT _⟩
 |
  r::rs,se,acc,h1,h2=>by
  rw[db] at h1 h2 ⊢
  unfold eP
  split
  ·obtain⟨s',a',e,q1,q2⟩:=fG rs se acc (by omega) (by omega)
   exact⟨s',a',e,by omega,by omega⟩
  ·have hm:(bJ bP r true se).length≤se.length+1:=dp
   rw[aA (by omega),aA (by omega)]
   obtain⟨s',a',e,q1,q2⟩:=fG rs (bJ bP r true se) (acc++[r]) (by omega) (by rw[cz,bF];omega)
   rw[cz,bF] at q2
   exact⟨s',a',e,by omega,by omega⟩
abbrev Pl:=iw
abbrev FM:=Zk
abbrev SM:=Zi
abbrev DM:=Ze
def IX(PS:Zd)(ix:Ix):Prop:=∀key,(aO aQ (.slice 64 aN) key (bC ix)).length≤1000000∧∀f∈aO aQ (.slice 64 aN) key (bC ix),f.2.1∈PS
structure WX(w:aU)(lo:Zd)(PS:Zd)(U:List Pl)(ix:Ix):Prop where
 cg:CG w.1.1 lo
 zero:(0:Int)∈PS
 consts:∀u∈w.1.1.2.2.2.1,∀t∈u.2.2.2.2.1,t.2.2.1.2.2.2.2.1∈PS
 pl:∀a p i:Int,0≤a→a<(w.1.1.2.2.1.length:Int)→p∈PS→0≤i→i<4→(a,(p,(i,())))∈U
 len:U.length≤1000000
 fl:∀a,0≤a→a<(w.1.1.2.2.1.length:Int)→(aP w.1.1 a).length≤1000
 ix:IX PS ix
structure WY(w:aU)(PS:Zd)(U:List Pl)(ix:Ix):Prop where
 sw:SW w.1.1
 len:U.length≤1000000
 fl:∀a,0≤a→a<(w.1.1.2.2.1.length:Int)→(aP w.1.1 a).length≤1000
 ix:IX PS ix
theorem WX.y{w:aU}{lo PS:Zd}{U:List Pl}{ix:Ix}(h:WX w lo PS U ix):WY w PS U ix:=⟨h.cg.sw,h.len,h.fl,h.ix⟩
structure FI(s:bD)(PS:Zd)(U:List Pl)(fo:FM)(se:SM)(rs:Zh):Prop where
 oz:(fo.map (·.1)).Nodup
 sub:∀e∈fo,e.1∈U
 ok:∀e∈fo,e.2.2.2.2.1=true→FV s PS e.2.1 e.1.1
 se:se.length≤1000*fo.length
 rs:rs.length≤1000*fo.length
theorem jK{α:Type}:∀(l L:List α),l.Nodup→(∀x∈l,x∈L)→l.length≤L.length:=by
 classical
 intro l
 induction l with
 |nil=>intro L _ _;exact cV _
 |
  cons a l ih=>
  intro L hn hs
  have ha:=hs a (dx ..)
  have h:=ih (L.erase a) (List.nodup_cons.1 hn).2 fun x hx=>(List.mem_erase_of_ne (fun e:x=a=>(List.nodup_cons.1 hn).1 (e▸hx))).2 (hs x (dF _ hx))
  rw[List.length_erase_of_mem ha] at h
  have hp:=List.length_pos_of_mem ha
  rw[db]
  omega
theorem FI.len{s:bD}{PS:Zd}{U:List Pl}{fo:FM}{se:SM}{rs:Zh}(h:FI s PS U fo se rs):fo.length≤U.length:=by
 have:=jK _ U h.oz fun x hx=>by
  obtain⟨e,he,rfl⟩:=List.mem_map.1 hx
  exact h.sub e he
 rwa [gm] at this
theorem la{α:Type}{kt:Ty}{k:kt.den}{y:α}:∀{es:List (kt.den×α)},es.length≤(bJ kt k y es).length
 |[]=>cV _
 |
  e::es=>by
  unfold bJ
  split
  ·exact cT _
  ·rw[db,db];exact Nat.succ_le_succ la
theorem FI.put{s:bD}{PS:Zd}{U:List Pl}{fo:FM}{se:SM}{rs:Zh}(h:FI s PS U fo se rs){p:Pl}(hp:p∈U){x:xi}(hx:x.2.2.2.1=true→FV s PS x.1 p.1){se':SM}{rs':Zh}
 (h1:se'.length≤1000*(bJ aQ p x fo).length) (h2:rs'.length≤1000*(bJ aQ p x fo).length):FI s PS U (bJ aQ p x fo) se' rs' where
 oz:=fF (kt:=aQ) rfl h.oz
 sub e he:=by
  rcases dB (kt:=aQ) he with rfl|he
  ·exact hp
  ·exact h.sub e he
 ok e he:=by
  rcases dB (kt:=aQ) he with rfl|he
  ·exact hx
  ·exact h.ok e he
 se:=h1
 rs:=h2
theorem FI.nil(s:bD)(PS:Zd)(U:List Pl):FI s PS U [] [] []:=
 ⟨List.nodup_nil,fun e he=>(by cases he),fun e he=>(by cases he),cT _,cT _⟩
theorem jy{w:aU}{PS:Zd}{U:List Pl}{ix:Ix}(hw:WY w PS U ix)(p:Pl)(d k:Int)(b:Bool)(m:DM)(z:Unit)(fo:FM)(se:SM)(rs:Zh):
 ∃L:Zj,d6 p w ix d k b m z fo se rs=some (w,ix,d,k,b,m,z,fo,se,rs,(w.1,(L,())))∧L.length≤1000*1000000∧∀f∈L,f.2.1∈PS:=by
 have hB:=hB
 suffices hW:W (d6 p w ix d k b m z fo se rs) fun r=>∃L:Zj,r=(w,ix,d,k,b,m,z,fo,se,rs,(w.1,(L,())))∧L.length≤1000*1000000∧∀f∈L,f.2.1∈PS by
  obtain⟨r,e,L,rfl,h⟩:=hW
  exact⟨L,e,h⟩
 have nil:∀f∈([]:Zj),f.2.1∈PS:=fun f hf=>(by cases hf)
 unfold d6
 by_cases h0:0≤p.1
 ·rw[bZ h0]
  by_cases h1:p.1<(w.1.1.2.2.1.length:Int)
  ·rw[bQ h1,aD,aA rfl,aA h0,aA h1]
   have e:(nth aR w.1.1.2.2.1 p.1).2.2.2.2.1=aP w.1.1 p.1:=rfl
   have hF:=hw.fl _ h0 h1
   rw[e]
   refine aY.2 (W.ct (bU (L:=iM) rfl (CT (fun r=>∃L:Zj,r=(w,ix,d,k,b,m,z,fo,se,rs,w.1,L)∧L.length≤1000*1000000∧∀f∈L,f.2.1∈PS) fun _=>False) (aP w.1.1 p.1).length (fun c(L:Zj)=>(((aP w.1.1 p.1).length:Int),(c:Int),w,ix,d,k,b,m,z,fo,se,rs,p,w.1,L)) (fun c L=>L.length≤c*1000000∧∀f∈L,f.2.1∈PS) ?step ?stop _ 0 [] (by omega) (by omega) ⟨cV _,nil⟩) (fun r h=>?_) fun r h=>?_)
   case step=>
    rintro rec c L hc ⟨hL,hP⟩ kk
    dsimp only
    have hw2:=fM c (by omega)
    obtain⟨q1,q2⟩:=hw.ix (p.1,(p.2.1,(aV ((aV ((16:Int)*p.2.2.1))+(c:Int)),())))
    rw[bZ (by omega),aA (by omega),hw2]
    refine kk _ ⟨by rw[cz];omega,fun f hf=>?_⟩
    rcases List.mem_append.1 hf with h|h
    ·exact hP f h
    ·exact q2 f h
   case stop=>
    rintro rec L ⟨hL,hP⟩
    dsimp only
    rw[eG (by omega)]
    exact⟨_,rfl,L,rfl,cS hL (je _ hF),hP⟩
   ·obtain⟨L,rfl,h⟩:=h
    exact⟨_,rfl,L,rfl,h⟩
   ·exact h.elim
  ·rw[cD h1];exact⟨_,rfl,[],rfl,cV _,nil⟩
 ·rw[aB (show¬decide ((0:Int)≤p.1)=true by simpa using h0)];exact⟨_,rfl,[],rfl,cV _,nil⟩
def PL(w:aU)(PS:Zd)(U:List Pl)(ix:Ix)(d k:Int)(b:Bool)(m:DM)(z:Unit)(p:Pl)(r:aU×Ix×Int×Int×Bool×DM×Unit×FM×SM×xi×List oF):Prop:=
 ∃fo se x rs,r=(w,ix,d,k,b,m,z,fo,se,x,rs)∧FI w.1.1 PS U fo se rs∧(x.2.2.2.1=true→FV w.1.1 PS x.1 p.1)
theorem rJ{w:aU}{PS:Zd}{U:List Pl}{ix:Ix}(hw:WY w PS U ix)(p:Pl)(d k:Int)(b:Bool)(m:DM)(z:Unit){fo:FM}{se:SM}{rs:Zh}(h:FI w.1.1 PS U fo se rs)(hp:ek aQ p fo=false)(hU:p∈U)(hP:p.2.1∈PS):
 ∃(L:Zj)(y:Bool)(x:jq)(n:Zh)(se':SM)(rs':Zh),d6 p w ix d k b m z fo se rs=some (w,ix,d,k,b,m,z,fo,se,rs,(w.1,(L,())))∧mM (w.1,(L,())) p.1 p.2.1 p.2.2.1 d k=some (y,x,n)∧
  gj rs n w ix d k b m z fo se=some (n,w,ix,d,k,b,m,z,fo,se',rs')∧fo.length+1≤aF∧
  PL w PS U ix d k b m z p (w,ix,d,k,b,m,z,bJ aQ p (x,((0:Int),(([]:Zp),(y,())))) fo,se',(x,((0:Int),(([]:Zp),(y,())))),rs'):=by
 have hB:=hB
 obtain⟨L,e1,hL,hPS⟩:=jy hw p d k b m z fo se rs
 obtain⟨⟨y,x,n⟩,e2,hn,hx⟩:=m9 (PS:=PS) (w.1,(L,())) hw.sw.nb hw.sw.rules hw.fl (by show L.length≤aF;omega) hPS p.1 p.2.1 p.2.2.1 d k hP
 dsimp only at hn hx
 have hlen:=h.len
 have h1:=hw.len
 have h2:=h.se
 have h3:=h.rs
 obtain⟨se',rs',e3,q1,q2⟩:=fG n se rs (by omega) (by omega)
 refine⟨L,y,x,n,se',rs',e1,e2,?_,by omega,?_⟩
 ·unfold gj
  rw[aA (by omega),e3]
  rfl
 ·have hnew:(bJ aQ p (x,((0:Int),(([]:Zp),(y,())))) fo).length=fo.length+1:=by
   rw[mj (kt:=aQ) rfl (fun hm=>by rw[(hH (kt:=aQ) rfl).2 hm] at hp;cases hp),cz,bF]
  exact⟨_,_,_,_,rfl,h.put hU hx (by omega) (by omega),hx⟩
abbrev Q0:=Pl×aU×Ix×Int×Int×Bool×DM×Unit×FM×SM×List oF×Unit→Option (aU×Ix×Int×Int×Bool×DM×Unit×FM×SM×xi×List oF)
abbrev Q1:=eQ×Int×List jq×aU×Ix×Int×Int×Bool×DM×Unit×FM×SM×List oF×Unit→Option (Bool×eQ×Int×aU×Ix×Int×Int×Bool×DM×Unit×FM×SM×List jq×List oF)
theorem lb{s:bD}{PS:Zd}{u:eQ}{l:Zp}(hN:NB s)(hL:LI s PS u l)(hl:l.length=u.2.2.1.length){t:gJ}(ht:l9 (cR s u) t)(h1:t.2.2.1≠-1):
 ∃n,∀(w:aU),w.1.1=s→∀ix d k b m z fo se rs,iV t u w ix d k b m z l fo se rs=some (n,u,w,ix,d,k,b,m,z,l,fo,se,rs):=by
 rcases ht with hi|hi
 ·obtain⟨v,hv,_⟩:=pT hL hl (Or.inl hi)
  obtain⟨p,hp⟩:=k9 s hN ([],([],((nth bE u.2.2.1 t.2.2.1).2.2.1,(t.2.2.2.1,())))) v
  refine⟨p.1,fun w hw ix d k b m z fo se rs=>?_⟩
  have hp':f32 w.1.1 ([],([],((nth bE u.2.2.1 t.2.2.1).2.2.1,(t.2.2.2.1,())))) v=some p:=by rw[hw];exact hp
  unfold iV
  rw[aA hi.v0,aA (show t.2.2.1<(u.2.2.1.length:Int) from hi.v1),hv,aD,hp']
  rfl
 ·exact absurd hi h1
theorem tX{s:bD}{PS:Zd}{u:eQ}{l:Zp}(hN:NB s)(hw:u.2.2.2.1.length≤aF)(hR:RK (cR s u))(hL:LI s PS u l)(hl:l.length=u.2.2.1.length):
 ∃y,∀(w:aU),w.1.1=s→∀ix d k b m z fo se rs,fw u w ix d k b m z l fo se rs=some (y,w,ix,d,k,b,m,z,l,fo,se,rs):=by
 have hB:=hB
 have key:∀n i:Nat,u.2.2.2.1.length -i<n→i≤u.2.2.2.1.length→∃y:Bool,∀(w:aU),w.1.1=s→∀ix d k b m z fo se rs,
  cY n (u.2.2.2.1,(u.2.2.2.1.length:Int),(i:Int),w,ix,d,k,b,m,z,l,fo,se,rs,u)=some (if y=true then .aX (w,ix,d,k,b,m,z,l,fo,se,rs) else .ret (false,w,ix,d,k,b,m,z,l,fo,se,rs)):=by
  intro n
  induction n with
  |zero=>intro i h;omega
  |
   succ n ih=>
   intro i hn hi
   by_cases h:i<u.2.2.2.1.length
   ·have hm:l9 (cR s u) (nth cF u.2.2.2.1 (i:Int)).2.1∧l9 (cR s u) (nth cF u.2.2.2.1 (i:Int)).2.2.1:=hR.wh _ (bA (t:=cF) (l:=u.2.2.2.1) (cw i) (show(i:Int)<(u.2.2.2.1.length:Int) by omega))
    obtain⟨y,hy⟩:=ih (i+1) (by omega) (by omega)
    have hw2:=fM i (by omega)
    have hi1:(i:Int)<(u.2.2.2.1.length:Int):=by omega
    generalize ha:nth cF u.2.2.2.1 (i:Int)=a at hm
    obtain⟨v1,e1,_⟩:=pT hL hl hm.1
    obtain⟨v2,e2,_⟩:=pT hL hl hm.2
    have fin:∀(p q:Int)(c:Bool),vP a.1 p q=some c→∀(w:aU) ix d k b m z fo se rs(rec:(ZC)×Int×Int×aU×Ix×Int×Int×Bool×DM×Unit×(Zp)×FM×SM×(Zh)×eQ→Option (dR (aU×Ix×Int×Int×Bool×DM×Unit×(Zp)×FM×SM×(Zh)) (Bool×aU×Ix×Int×Int×Bool×DM×Unit×(Zp)×FM×SM×(Zh)))),
     rec (u.2.2.2.1,(u.2.2.2.1.length:Int),((i+1:Nat):Int),w,ix,d,k,b,m,z,l,fo,se,rs,u)=some (if y=true then .aX (w,ix,d,k,b,m,z,l,fo,se,rs) else .ret (false,w,ix,d,k,b,m,z,l,fo,se,rs))→
     (Option.bind (vP a.1 p q) fun y10=>if(!y10)=true then(cU (some (false,w,ix,d,k,b,m,z,l,fo,se,rs))) else(rec (u.2.2.2.1,(u.2.2.2.1.length:Int),aV ((i:Int)+(1:Int)),w,ix,d,k,b,m,z,l,fo,se,rs,u)))=some (if(c&&y)=true then .aX (w,ix,d,k,b,m,z,l,fo,se,rs) else .ret (false,w,ix,d,k,b,m,z,l,fo,se,rs)):=by
     intro p q c hc w ix d k b m z fo se rs rec hr
     rw[hc,aD]
     cases c with
     |false=>rfl
     |true=>rw[aB (by decide),hw2,hr];rfl
    have hi0:=cw i
    by_cases n1:a.2.1.2.2.1= -1
    ·obtain⟨c,hc⟩:=dK a.1 v1 v2
     refine⟨c&&y,fun w hws ix d k b m z fo se rs=>?_⟩
     have hyw:=hy w hws ix d k b m z fo se rs
     unfold cY at hyw ⊢
     rw[aK]
     generalize aL _ n=rec at hyw ⊢
     dsimp only
     rw[bZ hi1,aA hi0,aA hi1,ha,e1,aD,e2,aD,aB (show¬(!decide (a.2.1.2.2.1=(-1:Int)))=true by simpa using n1)]
     exact fin v1 v2 c hc w ix d k b m z fo se rs rec hyw
    ·by_cases n2:a.2.2.1.2.2.1= -1
     ·obtain⟨c,hc⟩:=dK a.1 v1 v2
      refine⟨c&&y,fun w hws ix d k b m z fo se rs=>?_⟩
      have hyw:=hy w hws ix d k b m z fo se rs
      unfold cY at hyw ⊢
      rw[aK]
      generalize aL _ n=rec at hyw ⊢
      dsimp only
      rw[bZ hi1,aA hi0,aA hi1,ha,e1,aD,e2,aD,aA (show(!decide (a.2.1.2.2.1=(-1:Int)))=true by simpa using n1),aD,aB (show¬(!decide (a.2.2.1.2.2.1=(-1:Int)))=true by simpa using n2)]
      exact fin v1 v2 c hc w ix d k b m z fo se rs rec hyw
     ·obtain⟨p,hp⟩:=lb hN hL hl hm.1 n1
      obtain⟨q,hq⟩:=lb hN hL hl hm.2 n2
      obtain⟨c,hc⟩:=dK a.1 p q
      refine⟨c&&y,fun w hws ix d k b m z fo se rs=>?_⟩
      have hyw:=hy w hws ix d k b m z fo se rs
      unfold cY at hyw ⊢
      rw[aK]
      generalize aL _ n=rec at hyw ⊢
      dsimp only
      rw[bZ hi1,aA hi0,aA hi1,ha,e1,aD,e2,aD,aA (show(!decide (a.2.1.2.2.1=(-1:Int)))=true by simpa using n1),aD,aA (show(!decide (a.2.2.1.2.2.1=(-1:Int)))=true by simpa using n2),hp w hws ix d k b m z fo se rs,aD]
      dsimp only
      rw[hq w hws ix d k b m z fo se rs,aD]
      exact fin p q c hc w ix d k b m z fo se rs rec hyw
   ·refine⟨true,fun w hws ix d k b m z fo se rs=>?_⟩
    unfold cY
    rw[aK]
    dsimp only
    rw[eG (by omega)]
    rfl
 obtain⟨y,hy⟩:=key (Int.toNat (List.length u.2.2.2.1:Int)+1) 0 (by omega) (by omega)
 refine⟨y,fun w hws ix d k b m z fo se rs=>?_⟩
 have hyw:cY (Int.toNat (List.length u.2.2.2.1:Int)+1) (u.2.2.2.1,(List.length u.2.2.2.1:Int),(0:Int),w,ix,d,k,b,m,z,l,fo,se,rs,u)=_:=hy w hws ix d k b m z fo se rs
 unfold fw
 rw[hyw]
 cases y<;>rfl
theorem pW{s:bD}{PS:Zd}{u:eQ}{l:Zp}(hw:u.2.2.2.2.1.length≤aF)(hR:RK (cR s u))(hL:LI s PS u l)(hl:l.length=u.2.2.1.length)(hf:1≤(aP s u.2.1).length)(hf2:(aP s u.2.1).length≤1000)(p:Int)(hp:p∈PS)(h0:(0:Int)∈PS)(hc:∀t∈u.2.2.2.2.1,t.2.2.1.2.2.2.2.1∈PS):
 ∃x,FV s PS x u.2.1∧∀(w:aU),w.1.1=s→∀ix d k b m z fo se rs,fv u p l w ix d k b m z fo se rs=some (w,ix,d,k,b,m,z,fo,se,rs,x):=by
 have hB:=hB
 have key:∀(n i:Nat)(v:Zd),u.2.2.2.2.1.length -i<n→i≤u.2.2.2.2.1.length→v.length=(aP s u.2.1).length→(∀x∈v,x∈PS)→∃v',v'.length=(aP s u.2.1).length∧(∀x∈v',x∈PS)∧∀(w:aU) ix d k b m z fo se rs,
  dN n (p,l,u.2.2.2.2.1,(u.2.2.2.2.1.length:Int),(i:Int),w,ix,d,k,b,m,z,fo,se,rs,u,(0:Int),(0:Int),(0:Int),v)=some (.aX (p,w,ix,d,k,b,m,z,fo,se,rs,u,(0:Int),(0:Int),(0:Int),v')):=by
  intro n
  induction n with
  |zero=>intro i v h;omega
  |
   succ n ih=>
   intro i v hn hi hv hP
   by_cases h:i<u.2.2.2.2.1.length
   ·have hi1:(i:Int)<(u.2.2.2.2.1.length:Int):=by omega
    have hi0:=cw i
    have hm:=bA (t:=dE) (l:=u.2.2.2.2.1) hi0 hi1
    have hw2:=fM i (by omega)
    have hc2:=hc _ hm
    obtain⟨hi,ht⟩:=hR.st _ hm
    obtain⟨y,ey,hy⟩:=pT hL hl ht
    have hb:(nth dE u.2.2.2.2.1 (i:Int)).2.1<(v.length:Int):=by rw[hv];exact hi.b1
    obtain⟨v',q1,q2,q3⟩:=ih (i+1) (List.set v (Int.toNat (nth dE u.2.2.2.2.1 (i:Int)).2.1) y) (by omega) (by omega) (by rw[cK];exact hv) (fun x hx=>by
     rcases uC hx with h|rfl
     ·exact hP _ h
     ·rcases hy with h|⟨_,rfl⟩
      ·exact h
      ·exact hc2)
    refine⟨v',q1,q2,fun w ix d k b m z fo se rs=>?_⟩
    have hyw:=q3 w ix d k b m z fo se rs
    unfold dN at hyw ⊢
    rw[aK]
    generalize aL _ n=rec at hyw ⊢
    dsimp only
    rw[bZ hi1,aA hi0,aA hi1,ey,aD,aA hi.b0,aA hb,hw2]
    exact hyw
   ·refine⟨v,hv,hP,fun w ix d k b m z fo se rs=>?_⟩
    unfold dN
    rw[aK]
    dsimp only
    rw[eG (by omega)]
 obtain⟨v',q1,q2,q3⟩:=key (Int.toNat (List.length u.2.2.2.2.1:Int)+1) 0 (List.set (List.replicate (Int.toNat ((aP s u.2.1).length:Int)) (0:Int)) (Int.toNat (0:Int)) p) (by omega) (by omega) (by rw[cK,fY,dT]) (fun x hx=>by
  rcases uC hx with h|rfl
  ·rw[List.mem_replicate] at h
   rw[h.2];exact h0
  ·exact hp)
 refine⟨(u.2.1,(p,((0:Int),(v',())))),⟨q1,q2⟩,fun w hws ix d k b m z fo se rs=>?_⟩
 subst hws
 have e:(nth aR w.1.1.2.2.1 u.2.1).2.2.2.2.1=aP w.1.1 u.2.1:=rfl
 have q:=q3 w ix d k b m z fo se rs
 have q':dN (Int.toNat (List.length u.2.2.2.2.1:Int)+1) (p,l,u.2.2.2.2.1,(List.length u.2.2.2.2.1:Int),(0:Int),w,ix,d,k,b,m,z,fo,se,rs,u,(0:Int),(0:Int),(0:Int),List.set (List.replicate (Int.toNat ((aP w.1.1 u.2.1).length:Int)) (0:Int)) (Int.toNat (0:Int)) p)=_:=q
 unfold fv
 rw[aA hR.h0,aA hR.h1,e,dH _,aA (fL _),aA (by omega),aA (by rw[fY,dT];omega),q',aC]
def cX(s:bD)(ix:Ix)(p:Pl):Zj:=if 0≤p.1∧p.1<(s.2.2.1.length:Int) then(List.range (aP s p.1).length).flatMap fun(c:Nat)=>aO aQ (.slice 64 aN) (p.1,(p.2.1,(aV ((aV ((16:Int)*p.2.2.1))+(c:Int)),()))) (bC ix) else[]
theorem ld{w:aU}{PS:Zd}{U:List Pl}{ix:Ix}(hw:WY w PS U ix)(p:Pl)(d k:Int)(b:Bool)(m:DM)(z:Unit)(fo:FM)(se:SM)(rs:Zh):
 d6 p w ix d k b m z fo se rs=some (w,ix,d,k,b,m,z,fo,se,rs,(w.1,(cX w.1.1 ix p,()))):=by
 have hB:=hB
 suffices hW:W (d6 p w ix d k b m z fo se rs) fun r=>r=(w,ix,d,k,b,m,z,fo,se,rs,(w.1,(cX w.1.1 ix p,()))) by
  obtain⟨r,e,rfl⟩:=hW
  exact e
 unfold d6
 by_cases h0:0≤p.1
 ·rw[bZ h0]
  by_cases h1:p.1<(w.1.1.2.2.1.length:Int)
  ·rw[bQ h1,aD,aA rfl,aA h0,aA h1]
   have e:(nth aR w.1.1.2.2.1 p.1).2.2.2.2.1=aP w.1.1 p.1:=rfl
   have hF:=hw.fl _ h0 h1
   rw[e]
   have ea:cX w.1.1 ix p=(List.range (aP w.1.1 p.1).length).flatMap fun(c:Nat)=>aO aQ (.slice 64 aN) (p.1,(p.2.1,(aV ((aV ((16:Int)*p.2.2.1))+(c:Int)),()))) (bC ix):=aA ⟨h0,h1⟩
   rw[ea]
   refine aY.2 (W.ct (bU (L:=iM) rfl (CT (fun r=>r=(w,ix,d,k,b,m,z,fo,se,rs,w.1,(List.range (aP w.1.1 p.1).length).flatMap fun(c:Nat)=>aO aQ (.slice 64 aN) (p.1,(p.2.1,(aV ((aV ((16:Int)*p.2.2.1))+(c:Int)),()))) (bC ix))) fun _=>False) (aP w.1.1 p.1).length (fun c(L:Zj)=>(((aP w.1.1 p.1).length:Int),(c:Int),w,ix,d,k,b,m,z,fo,se,rs,p,w.1,L)) (fun c L=>L.length≤c*1000000∧L=(List.range c).flatMap fun(c:Nat)=>aO aQ (.slice 64 aN) (p.1,(p.2.1,(aV ((aV ((16:Int)*p.2.2.1))+(c:Int)),()))) (bC ix)) ?step ?stop _ 0 [] (by omega) (by omega) ⟨cV _,rfl⟩) (fun r h=>?_) fun r h=>h.elim)
   case step=>
    rintro rec c L hc ⟨hL,hP⟩ kk
    dsimp only
    have hw2:=fM c (by omega)
    obtain⟨q1,q2⟩:=hw.ix (p.1,(p.2.1,(aV ((aV ((16:Int)*p.2.2.1))+(c:Int)),())))
    rw[bZ (by omega),aA (by omega),hw2]
    refine kk _ ⟨by rw[cz];omega,?_⟩
    rw[List.range_succ,List.flatMap_append,←hP,List.flatMap_cons,List.flatMap_nil,cW]
   case stop=>
    rintro rec L ⟨hL,hP⟩
    dsimp only
    rw[eG (by omega),hP]
    exact⟨_,rfl,rfl⟩
   ·subst h
    exact⟨_,rfl,rfl⟩
  ·have ea:cX w.1.1 ix p= []:=aB fun h=>h1 h.2
   rw[cD h1,ea];exact⟨_,rfl,rfl⟩
 ·have ea:cX w.1.1 ix p= []:=aB fun h=>h0 h.1
  rw[aB (show¬decide ((0:Int)≤p.1)=true by simpa using h0),ea];exact⟨_,rfl,rfl⟩
structure T2(w1:aU)(ix1:Ix)(k1:Int)(w2:aU)(ix2:Ix)(k2:Int)(lo PS:Zd)(U:List Pl)(d:Int)(Gd:oF→Prop):Prop where
 h1:WX w1 lo PS U ix1
 h2:WX w2 lo PS U ix2
 tb:w2.1=w1.1
 rd:∀(p:Pl) r,mM (w1.1,(cX w1.1.1 ix1 p,())) p.1 p.2.1 p.2.2.1 d k1=some r→(∀q∈r.2.2,Gd q)→mM (w2.1,(cX w2.1.1 ix2 p,())) p.1 p.2.1 p.2.2.1 d k2=some r
structure FT(b:bD):Prop where
 dh:b.2.2.1.length≤6
 rules:b.2.2.2.1.length≤4
 fields:∀x∈b.2.2.1,x.2.2.2.2.1.length≤6
 Ig:∀x∈b.2.2.2.1,x.2.2.2.2.1.length≤6
theorem pX(b:bD)(h:SS b):∃r,yJ b=some r∧(r=true→FT b):=by
 have hB:=hB
 have h3:=h.dh
 have h4:=h.rules
 have h5:=h.fQ
 have h6:=h.dV
 suffices hW:W (yJ b) fun r=>r=true→FT b by
  obtain⟨r,e,h⟩:=hW
  exact⟨r,e,h⟩
 have nb:∀n:Nat,n≤aF→n -0<dG:=fun n hn=>by show _<18446744073709551616;omega
 have no:(false:Bool)=true→FT b:=fun h=>(by cases h)
 unfold yJ
 refine aY.2 (W.ct (bU (L:=mP) rfl (CT (fun d=>d=b∧∀j(hj:j<b.2.2.1.length),b.2.2.1[j].2.2.2.2.1.length≤6) fun r=>r=false) b.2.2.1.length (fun c(_:Unit)=>((c:Int),b)) (fun c _=>∀j(hj:j<b.2.2.1.length),j<c→b.2.2.1[j].2.2.2.2.1.length≤6) ?step ?stop dG 0 () (nb _ h3) (by omega) (fun j _ h=>absurd h (Nat.not_lt_zero _))) (fun d hd=>?_) fun r hr=>by subst hr;exact no)
 case step=>
  intro rec c _ hc hI kk
  dsimp only
  have hw2:=fM c (by omega)
  have hcc:(c:Int)<(b.2.2.1.length:Int):=by omega
  rw[bZ hcc,dH c,aA hcc,cH (t:=aR) hc]
  by_cases a1:(6:Int)<(b.2.2.1[c].2.2.2.2.1.length:Int)
  ·rw[bZ a1];exact⟨_,rfl,rfl⟩
  ·rw[aB (show¬decide ((6:Int)<(b.2.2.1[c].2.2.2.2.1.length:Int))=true by simpa using a1),dH c,aA hcc,aD]
   split
   ·exact⟨_,rfl,rfl⟩
   ·rw[hw2]
    refine kk () fun j hj hjc=>?_
    by_cases e:j=c
    ·subst e;omega
    ·exact hI j hj (by omega)
 case stop=>
  intro rec _ hI
  dsimp only
  rw[eG (by omega)]
  exact⟨_,rfl,rfl,fun j hj=>hI j hj hj⟩
 obtain⟨rfl,hf⟩:=hd
 refine aY.2 (W.ct (bU (L:=mQ) rfl (CT (fun d'=>d'=d∧∀j(hj:j<d.2.2.2.1.length),d.2.2.2.1[j].2.2.2.2.1.length≤6) fun r=>r=false) d.2.2.2.1.length (fun c(_:Unit)=>((c:Int),d)) (fun c _=>∀j(hj:j<d.2.2.2.1.length),j<c→d.2.2.2.1[j].2.2.2.2.1.length≤6) ?step ?stop dG 0 () (nb _ h4) (by omega) (fun j _ h=>absurd h (Nat.not_lt_zero _))) (fun d' hd=>?_) fun r hr=>by subst hr;exact no)
 case step=>
  intro rec c _ hc hI kk
  dsimp only
  have hw2:=fM c (by omega)
  have hcc:(c:Int)<(d.2.2.2.1.length:Int):=by omega
  rw[bZ hcc,dH c,aA hcc,cH (t:=bW) hc]
  by_cases a1:(4:Int)<(d.2.2.2.1[c].2.2.1.length:Int)
  ·rw[bZ a1];exact⟨_,rfl,rfl⟩
  ·rw[aB (show¬decide ((4:Int)<(d.2.2.2.1[c].2.2.1.length:Int))=true by simpa using a1),dH c,aA hcc]
   by_cases a2:(5:Int)<(d.2.2.2.1[c].2.2.2.1.length:Int)
   ·rw[bZ a2];exact⟨_,rfl,rfl⟩
   ·rw[aB (show¬decide ((5:Int)<(d.2.2.2.1[c].2.2.2.1.length:Int))=true by simpa using a2),dH c,aA hcc,aD]
    by_cases a3:(6:Int)<(d.2.2.2.1[c].2.2.2.2.1.length:Int)
    ·rw[bZ a3];exact⟨_,rfl,rfl⟩
    ·rw[aB (show¬decide ((6:Int)<(d.2.2.2.1[c].2.2.2.2.1.length:Int))=true by simpa using a3),hw2]
     refine kk () fun j hj hjc=>?_
     by_cases e:j=c
     ·subst e;omega
     ·exact hI j hj (by omega)
 case stop=>
  intro rec _ hI
  dsimp only
  rw[eG (by omega)]
  exact⟨_,rfl,rfl,fun j hj=>hI j hj hj⟩
 obtain⟨rfl,hs⟩:=hd
 refine aY.2 (W.ct (bU (L:=kO) rfl (CT (fun d=>d=d') fun r=>r=false) d'.2.2.2.2.1.length (fun c(_:Unit)=>((c:Int),d')) (fun _ _=>True) ?step ?stop dG 0 () (nb _ h5) (by omega) trivial) (fun d hd=>?_) fun r hr=>by subst hr;exact no)
 case step=>
  intro rec c _ hc _ kk
  dsimp only
  have hw2:=fM c (by omega)
  have hcc:(c:Int)<(d'.2.2.2.2.1.length:Int):=by omega
  rw[bZ hcc,dH c,aA hcc]
  split
  ·exact⟨_,rfl,rfl⟩
  ·rw[hw2];exact kk () trivial
 case stop=>
  intro rec _ _
  dsimp only
  rw[eG (by omega)]
  exact⟨_,rfl,rfl⟩
 subst hd
 refine aY.2 (W.ct (bU (L:=kP) rfl (CT (fun d'=>d'=d) fun r=>r=false) d.2.2.2.2.2.1.length (fun c(_:Unit)=>((c:Int),d)) (fun _ _=>True) ?step ?stop dG 0 () (nb _ h6) (by omega) trivial) (fun d' hd=>?_) fun r hr=>by subst hr;exact no)
 case step=>
  intro rec c _ hc _ kk
  dsimp only
  have hw2:=fM c (by omega)
  have hcc:(c:Int)<(d.2.2.2.2.2.1.length:Int):=by omega
  rw[bZ hcc,dH c,aA hcc]
  split
  ·exact⟨_,rfl,rfl⟩
  ·rw[hw2];exact kk () trivial
 case stop=>
  intro rec _ _
  dsimp only
  rw[eG (by omega)]
  exact⟨_,rfl,rfl⟩
 subst hd
 by_cases c1:(d'.1.length:Int)≤4
 ·rw[bZ c1]
  by_cases c2:(d'.2.1.length:Int)≤5
  ·rw[bZ c2]
   by_cases c3:(d'.2.2.1.length:Int)≤6
   ·rw[bZ c3]
    by_cases c4:(d'.2.2.2.1.length:Int)≤4
    ·rw[bZ c4]
     have ig:FT d':=⟨by omega,by omega,fun x hx=>by
      obtain⟨j,hj,rfl⟩:=iB hx
      exact hf j hj,fun x hx=>by
      obtain⟨j,hj,rfl⟩:=iB hx
      exact hs j hj⟩
     split
     ·exact⟨_,rfl,fun _=>ig⟩
     ·exact⟨_,rfl,no⟩
    ·rw[aB (show¬decide ((d'.2.2.2.1.length:Int)≤4)=true by simpa using c4)];exact⟨_,rfl,no⟩
   ·rw[aB (show¬decide ((d'.2.2.1.length:Int)≤6)=true by simpa using c3)];exact⟨_,rfl,no⟩
  ·rw[aB (show¬decide ((d'.2.1.length:Int)≤5)=true by simpa using c2)];exact⟨_,rfl,no⟩
 ·rw[aB (show¬decide ((d'.1.length:Int)≤4)=true by simpa using c1)];exact⟨_,rfl,no⟩
theorem pY(w:aU)(h:SS w.1.1):∃r,B0 w=some r∧(r=true→FT w.1.1∧w.2.1.length≤60):=by
 obtain⟨r,e,hr⟩:=pX w.1.1 h
 unfold B0 G8
 rw[e,aD]
 cases r with
 |false=>exact⟨false,rfl,fun h=>(by cases h)⟩
 |
  true=>
  have ht:=hr rfl
  rw[aA rfl,aD,aD]
  split
  ·exact⟨_,rfl,fun h=>⟨ht,by have h:(w.2.1.length:Int)≤60:=bX h;omega⟩⟩
  ·exact⟨false,rfl,fun h=>(by cases h)⟩
theorem pZ(w:aU)(h:SS w.1.1):∃r,f8 w=some r∧(r=true→FT w.1.1∧w.2.1.length≤60):=by
 have hB:=hB
 have h4:=h.rules
 suffices hW:W (f8 w) fun r=>r=true→FT w.1.1∧w.2.1.length≤60 by
  obtain⟨r,e,h⟩:=hW
  exact⟨r,e,h⟩
 have no:(false:Bool)=true→FT w.1.1∧w.2.1.length≤60:=fun h=>(by cases h)
 unfold f8
 refine aY.2 (W.ct (bU (L:=qX) rfl (CT (fun d=>d=(w,w.1.1)) fun r=>r=false) w.1.1.2.2.2.1.length (fun c(_:Unit)=>((c:Int),w,w.1.1)) (fun _ _=>True) ?step ?stop dG 0 () (by show _<18446744073709551616;omega) (by omega) trivial) (fun d hd=>?_) fun r hr=>by subst hr;exact no)
 case step=>
  intro rec c _ hc _ kk
  dsimp only
  have hw2:=fM c (by omega)
  have hcc:(c:Int)<(w.1.1.2.2.2.1.length:Int):=by omega
  rw[bZ hcc,dH c,aA hcc]
  split
  ·exact⟨_,rfl,rfl⟩
  ·rw[hw2];exact kk () trivial
 case stop=>
  intro rec _ _
  dsimp only
  rw[eG (by omega)]
  exact⟨_,rfl,rfl⟩
 subst hd
 dsimp only
 obtain⟨r,e,hr⟩:=pY w h
 rw[e,aD]
 cases r with
 |false=>exact⟨false,rfl,no⟩
 |
  true=>
  have ht:=hr rfl
  rw[aA rfl]
  split
  ·exact⟨_,rfl,fun _=>ht⟩
  ·exact⟨false,rfl,no⟩
def dr(k:iw)(l:Zj):Zj:=l.filter fun f=>bN aQ f.1 k
theorem kI(k:iw)(l:Zj)(x:iF):dr k (l++[x])=dr k l++if bN aQ x.1 k=true then[x] else[]:=by
 unfold dr
 rw[List.filter_append,js]
 rfl
def gP(l:Zl):Zr:=l.foldl (fun m u=>bJ (.int .i64) u.2.1 true m) []
theorem lL(l:Zl)(u:eQ):gP (l++[u])=bJ (.int .i64) u.2.1 true (gP l):=by
 unfold gP
 rw[List.foldl_append]
 rfl
theorem iH:∀(l:Zl)(m:Zr),(l.foldl (fun m u=>bJ (.int .i64) u.2.1 true m) m).length≤m.length+l.length
 |[],m=>cT _
 |
  u::l,m=>by
  have h:=iH l (bJ (.int .i64) u.2.1 true m)
  have h2:(bJ (.int .i64) u.2.1 true m).length≤m.length+1:=dp (kt:=.int .i64)
  rw[List.foldl_cons,db]
  omega
theorem nc(l:Zl):(gP l).length≤l.length:=by
 have h:=iH l []
 rw[fZ,d9] at h
 exact h
theorem gD{α:Type}(l:List α)(c:Nat)(h:c<l.length):l.take (c+1)=l.take c++[l[c]]:=List.take_succ_eq_append_getElem h
theorem lM(w:aU)(hf:w.2.1.length≤1000000)(hr:w.1.1.2.2.2.1.length≤aF)(d k:Int)(v:Bool):
 ∃ix:ZH,iq w d k v=some (w,some ix,d,k,v,some (gP w.1.1.2.2.2.1),(),[],[],[])∧∀key,aO aQ (.slice 64 aN) key ix=dr key w.2.1:=by
 have hB:=hB
 suffices hW:W (iq w d k v) fun r=>∃ix:ZH,r=(w,some ix,d,k,v,some (gP w.1.1.2.2.2.1),(),[],[],[])∧∀key,aO aQ (.slice 64 aN) key ix=dr key w.2.1 by
  obtain⟨r,e,ix,rfl,h⟩:=hW
  exact⟨ix,e,h⟩
 unfold iq
 refine aY.2 (W.ct (bU (L:=oR) rfl (CT (fun r=>∃ix:ZH,r=(d,k,w,ix,([]:Zr),w,(0:Int),(0:Int),v)∧∀key,aO aQ (.slice 64 aN) key ix=dr key w.2.1) fun _=>False) w.2.1.length (fun c(ix:ZH)=>(d,k,w.2.1,(w.2.1.length:Int),(c:Int),w,ix,([]:Zr),w,(0:Int),(0:Int),v)) (fun c ix=>ix.length≤2*c∧∀key,aO aQ (.slice 64 aN) key ix=dr key (w.2.1.take c)) ?step ?stop _ 0 [] (by omega) (by omega) ⟨cV _,fun key=>rfl⟩) (fun r hr=>?_) fun r hr=>hr.elim)
 case step=>
  rintro rec c ix hc ⟨hl,hI⟩ kk
  dsimp only
  have hw2:=fM c (by omega)
  have hcc:(c:Int)<(w.2.1.length:Int):=by omega
  rw[bZ hcc,dH c,aA hcc,cH (t:=aN) hc]
  have ht:=gD w.2.1 c hc
  generalize w.2.1[c]=x at ht ⊢
  have h1:(aO aQ (.slice 64 aN) x.1 ix).length≤w.2.1.length:=by
   rw[hI x.1]
   exact cS (nS ..) (by rw[gv];omega)
  rw[aA ((dw aQ x.1 x.1).2 rfl),aA (show ix.length+1≤aF by omega),aA (show((aO aQ (.slice 64 aN) x.1 ix).length+List.length [x])*64≤aF by rw[bF];omega),hw2]
  refine kk _ ⟨?_,fun key=>?_⟩
  ·have q1:(bJ aQ x.1 (Ty.aH (.slice 64 aN)) ix).length≤ix.length+1:=dp (kt:=aQ)
   have q2:(bJ aQ x.1 (aO aQ (.slice 64 aN) x.1 ix++[x]) (bJ aQ x.1 (Ty.aH (.slice 64 aN)) ix)).length≤(bJ aQ x.1 (Ty.aH (.slice 64 aN)) ix).length+1:=dp (kt:=aQ)
   omega
  ·rw[ht,kI]
   by_cases e:key=x.1
   ·subst e
    rw[dj (kt:=aQ) (vt:=.slice 64 aN) rfl,hI,aA ((dw aQ x.1 x.1).2 rfl)]
   ·rw[cP (kt:=aQ) (vt:=.slice 64 aN) rfl e,cP (kt:=aQ) (vt:=.slice 64 aN) rfl e,hI,aB (fun h=>e ((dw aQ x.1 key).1 h).symm),cW]
 case stop=>
  rintro rec ix ⟨hl,hI⟩
  dsimp only
  rw[eG (by omega)]
  rw[List.take_length] at hI
  exact⟨_,rfl,ix,rfl,hI⟩
 obtain⟨ix,rfl,hI⟩:=hr
 dsimp only
 refine aY.2 (W.ct (bU (L:=oS) rfl (CT (fun r=>r=(d,k,ix,gP w.1.1.2.2.2.1,w,(0:Int),(0:Int),v)) fun _=>False) w.1.1.2.2.2.1.length (fun c(m:Zr)=>(d,k,w.1.1.2.2.2.1,(w.1.1.2.2.2.1.length:Int),(c:Int),ix,m,w,(0:Int),(0:Int),v)) (fun c m=>m=gP (w.1.1.2.2.2.1.take c)) ?step ?stop _ 0 [] (by omega) (by omega) rfl) (fun r hr=>?_) fun r hr=>hr.elim)
 case step=>
  rintro rec c m hc rfl kk
  dsimp only
  have hw2:=fM c (by omega)
  have hcc:(c:Int)<(w.1.1.2.2.2.1.length:Int):=by omega
  have hl:=nc (w.1.1.2.2.2.1.take c)
  rw[gv] at hl
  rw[bZ hcc,dH c,aA hcc,aA (show(gP (w.1.1.2.2.2.1.take c)).length+1≤aF by omega),hw2,cH (t:=bW) hc]
  exact kk _ (by rw[gD _ _ hc,lL])
 case stop=>
  rintro rec m rfl
  dsimp only
  rw[eG (by omega),List.take_length]
  exact⟨_,rfl,rfl⟩
 subst hr
 exact⟨_,rfl,ix,rfl,hI⟩
theorem gu{α β:Type}{f:α→List β}{n:Nat}:∀{l:List α},(∀x∈l,(f x).length≤n)→(l.flatMap f).length≤l.length*n
 |[],_=>cV _
 |
  x::l,h=>by
  have h1:=h x (dx ..)
  have h2:=gu (f:=f) (n:=n) (l:=l) fun y hy=>h y (dF _ hy)
  rw[List.flatMap_cons,cz,db,iQ]
  omega
def jz(w:aU)(p:Int):Zd:=0::p::(w.2.1.map (fun f=>f.2.1)++w.1.1.2.2.2.1.flatMap fun u=>u.2.2.2.2.1.map fun t=>t.2.2.1.2.2.2.2.1)
def Uo(w:aU)(p:Int)(x:Pl):List Pl:=x::(List.range w.1.1.2.2.1.length).flatMap fun(i:Nat)=>(jz w p).flatMap fun(q:Int)=>(List.range 4).map fun(j:Nat)=>(((i:Int),(q,((j:Int),()))):Pl)
theorem qa{w:aU}(p:Int)(hT:FT w.1.1)(hf:w.2.1.length≤60):(jz w p).length≤86:=by
 have h:=gu (f:=fun u:eQ=>u.2.2.2.2.1.map fun t=>t.2.2.1.2.2.2.2.1) (n:=6) (l:=w.1.1.2.2.2.1) fun x hx=>by rw[gm];exact hT.Ig x hx
 have h4:=hT.rules
 unfold jz
 rw[db,db,cz,gm]
 omega
theorem ng{w:aU}(p:Int)(x:Pl)(hT:FT w.1.1)(hf:w.2.1.length≤60):(Uo w p x).length≤2100:=by
 have h1:=qa p hT hf
 have h2:∀i:Nat,((jz w p).flatMap fun(q:Int)=>(List.range 4).map fun(j:Nat)=>(((i:Int),(q,((j:Int),()))):Pl)).length≤344:=fun i=>by
  have:=gu (f:=fun(q:Int)=>(List.range 4).map fun(j:Nat)=>(((i:Int),(q,((j:Int),()))):Pl)) (n:=4) (l:=jz w p) fun y _=>by rw[gm,nU];exact cT _
  omega
 have h3:=gu (f:=fun(i:Nat)=>(jz w p).flatMap fun(q:Int)=>(List.range 4).map fun(j:Nat)=>(((i:Int),(q,((j:Int),()))):Pl)) (n:=344) (l:=List.range w.1.1.2.2.1.length) fun i _=>h2 i
 rw[nU] at h3
 have h4:=hT.dh
 unfold Uo
 rw[db]
 omega
theorem rK{w:aU}(p:Int)(x:Pl){a q i:Int}(a0:0≤a)(a1:a<(w.1.1.2.2.1.length:Int))(hq:q∈jz w p)(i0:0≤i)(i1:i<4):(a,(q,(i,())))∈Uo w p x:=by
 refine dF _ (List.mem_flatMap.2 ⟨a.toNat,List.mem_range.2 (by omega),List.mem_flatMap.2 ⟨q,hq,List.mem_map.2 ⟨i.toNat,List.mem_range.2 (by omega),?_⟩⟩⟩)
 have e1:((a.toNat:Nat):Int)=a:=by omega
 have e2:((i.toNat:Nat):Int)=i:=by omega
 rw[e1,e2]
theorem Nx{w:aU}{lo:Zd}(hc:CG w.1.1 lo)(hT:FT w.1.1)(hf:w.2.1.length≤60)(p:Int)(x:Pl){ix:Ix}(hix:IX (jz w p) ix):WX w lo (jz w p) (Uo w p x) ix where
 cg:=hc
 zero:=dx ..
 consts u hu t ht:=dF _ (dF _ (iR _ (List.mem_flatMap.2 ⟨u,hu,List.mem_map.2 ⟨t,ht,rfl⟩⟩)))
 pl _ _ _ a0 a1 hq i0 i1:=rK p x a0 a1 hq i0 i1
 len:=cS (ng p x hT hf) (by decide)
 fl a a0 a1:=by
  have:=hT.fields _ (bA (t:=aR) (l:=w.1.1.2.2.1) a0 a1)
  exact cS this (by decide)
 ix:=hix
abbrev Rs:=xi
abbrev In:=jq
abbrev Rd:=oF
abbrev Ru:=eQ
abbrev An:=Bool×In×List Rd
inductive Qy(α:Type) where
 |ret:α→Qy α
 |ask:Pl→(Bool→In→Qy α)→Qy α
def Qy.bind{α β:Type}:Qy α→(α→Qy β)→Qy β
 | .ret a,f=>f a
 | .ask p k,f=>.ask p fun b x=>(k b x).bind f
def Qy.run{α:Type}(O:Pl→An):Qy α→α×List Rd
 | .ret a=>(a,[])
 | .ask p k=>(((k (O p).1 (O p).2.1).run O).1,(O p).2.2++((k (O p).1 (O p).2.1).run O).2)
theorem Qy.run_bind{α β:Type}(O:Pl→An)(f:α→Qy β):∀x:Qy α,(x.bind f).run O=(((f (x.run O).1).run O).1,(x.run O).2++((f (x.run O).1).run O).2)
 | .ret a=>rfl
 |
  .ask p k=>by
  show((((k (O p).1 (O p).2.1).bind f).run O).1,(O p).2.2++(((k (O p).1 (O p).2.1).bind f).run O).2)=((((f ((k (O p).1 (O p).2.1).run O).1)).run O).1,((O p).2.2++((k (O p).1 (O p).2.1).run O).2)++((f ((k (O p).1 (O p).2.1).run O).1).run O).2)
  rw[Qy.run_bind O f (k (O p).1 (O p).2.1),jr]
open Classical in
def bB:List Rd→List Rd→List Rd
 |rs,[]=>rs
 |rs,r::t=>bB (if r∈rs then rs else rs++[r]) t
theorem cq:∀(a rs b:List Rd),bB rs (a++b)=bB (bB rs a) b
 |[],_,_=>rfl
 |r::a,rs,b=>cq a (if r∈rs then rs else rs++[r]) b
theorem eK:∀(t rs:List Rd)(x:Rd),x∈bB rs t↔x∈rs∨x∈t
 |[],rs,x=>by simp[bB]
 |
  r::t,rs,x=>by
  unfold bB
  rw[eK t]
  by_cases h:r∈rs
  ·rw[aA h,eJ]
   exact⟨fun h=>h.imp id Or.inr,fun h'=>h'.elim Or.inl fun h'=>h'.elim (fun e=>Or.inl (e▸h)) Or.inr⟩
  ·rw[aB h,eJ,jT,ln,or_assoc]
theorem gK:∀(t rs:List Rd),(∀r∈t,r∈rs)→bB rs t=rs
 |[],_,_=>rfl
 |
  r::t,rs,h=>by
  unfold bB
  rw[aA (h r (dx ..))]
  exact gK t rs fun x hx=>h x (dF _ hx)
def SJ(se:SM)(rs:List Rd):Prop:=∀r,aO bP .bool r se=true↔r∈rs
theorem fH:∀(n:List Rd)(se:SM)(acc:List Rd)(s':SM)(a':List Rd),eP n se acc=some (s',a')→SJ se acc→a'=bB acc n∧SJ s' a'
 |
  [],se,acc,s',a',h,hs=>by
  cases h
  exact⟨rfl,hs⟩
 |
  r::n,se,acc,s',a',h,hs=>by
  unfold eP at h
  unfold bB
  split at h
  ·rename_i hm
   rw[aA ((hs r).1 hm)]
   exact fH n se acc s' a' h hs
  ·rename_i hm
   rw[aB fun hr=>hm ((hs r).2 hr)]
   split at h
   ·split at h
    ·refine fH n _ _ s' a' h fun x=>?_
     rw[jT,ln]
     by_cases e:x=r
     ·subst e
      rw[dj (kt:=bP) (vt:=.bool) rfl]
      exact⟨fun _=>Or.inr rfl,fun _=>rfl⟩
     ·rw[cP (kt:=bP) (vt:=.bool) rfl e,hs x]
      exact⟨Or.inl,fun h=>h.elim id fun h=>absurd h e⟩
    ·cases h
   ·cases h
def w0(s:bD):aU:=((s,([],())),([],()))
def gi(s:bD)(u:Ru)(l:List In):Bool:=match fw u (w0 s) none 0 0 false none () l [] [] [] with
 |some r=>r.1
 |none=>false
def cI(s:bD)(u:Ru)(p:Int)(l:List In):In:=match fv u p l (w0 s) none 0 0 false none () [] [] [] with
 |some r=>r.2.2.2.2.2.2.2.2.2.2
 |none=>(0,(0,(0,([],()))))
def bO(u:Ru)(p:Int)(l:List In):Int:=
 if(nth bE u.2.2.1 (l.length:Int)).2.2.2.1.2.2.1= -1 then p else nth (.int .i64) (nth bR l (nth bE u.2.2.1 (l.length:Int)).2.2.2.1.2.2.1).2.2.2.1 (nth bE u.2.2.1 (l.length:Int)).2.2.2.1.2.2.2.1
def dg(look:Pl→Qy Rs)(ch:List In→Qy (Bool×List In))(a o:Int)(l:List In):Nat→Nat→Qy (Bool×List In)
 |0,_=>.ret (false,l)
 |n+1,c=>(look (a,(o,((c:Int),())))).bind fun x=>if x.2.2.2.1=true then(ch (l++[x.1])).bind fun y=>if y.1=true then .ret y else dg look ch a o l n (c+1) else dg look ch a o l n (c+1)
def bT(m:DM)(a:Int):Nat:=if aO (.int .i64) .bool a (bC m)=true then 1 else 4
def aS(look:Pl→Qy Rs)(s:bD)(m:DM)(u:Ru)(p:Int):Nat→List In→Qy (Bool×List In)
 |0,l=>.ret (gi s u l,l)
 |n+1,l=>dg look (aS look s m u p n) (nth bE u.2.2.1 (l.length:Int)).2.2.1 (bO u p l) l (bT m (nth bE u.2.2.1 (l.length:Int)).2.2.1) 0
def zR:Rs:=((0,(0,(0,([],())))),(0,([],(false,()))))
def cJ(ch:Ru→Qy (Bool×List In))(bd:Ru→List In→In)(R:List Ru)(a:Int):Nat→Nat→Qy Rs
 |0,_=>.ret zR
 |n+1,c=>if(nth bW R (c:Int)).2.1=a then(ch (nth bW R (c:Int))).bind fun y=>if y.1=true then .ret (bd (nth bW R (c:Int)) y.2,((c:Int),(y.2,(true,())))) else cJ ch bd R a n (c+1) else cJ ch bd R a n (c+1)
def dt(s:bD)(m:DM)(look:Pl→Qy Rs)(p:Pl):Qy Rs:=
 if aO (.int .i64) .bool p.1 (bC m)=true then cJ (fun u=>aS look s m u p.2.1 u.2.2.1.length []) (fun u l=>cI s u p.2.1 l) s.2.2.2.1 p.1 s.2.2.2.1.length 0 else .ask p fun b x=>.ret (x,(0,([],(b,()))))
def jA(s:bD)(m:DM):Nat→Pl→Qy Rs
 |0,_=>.ret zR
 |n+1,p=>dt s m (jA s m n) p
theorem eT{k1 k2:Pl→Qy Rs}{ch1 ch2:List In→Qy (Bool×List In)}{a:Int}{l:List In}(h:∀y,k1 (a,y)=k2 (a,y))(hc:∀x,ch1 (l++[x])=ch2 (l++[x]))(o:Int):∀n c,dg k1 ch1 a o l n c=dg k2 ch2 a o l n c
 |0,_=>rfl
 |
  n+1,c=>by
  unfold dg
  rw[h,eT h hc o n]
  simp only[hc]
theorem eE{k1 k2:Pl→Qy Rs}{s:bD}{m:DM}{u:Ru}(h:∀v∈u.2.2.1,∀y,k1 (v.2.2.1,y)=k2 (v.2.2.1,y))(p:Int):∀n l,l.length+n=u.2.2.1.length→aS k1 s m u p n l=aS k2 s m u p n l
 |0,_,_=>rfl
 |n+1,l,hl=>eT (h _ (bA (t:=bE) (l:=u.2.2.1) (cw l.length) (by omega))) (fun x=>eE h p n (l++[x]) (by rw[cz,bF];omega)) _ _ _
theorem eU{c1 c2:Ru→Qy (Bool×List In)}{bd:Ru→List In→In}{R:List Ru}{a:Int}(h:∀u∈R,u.2.1=a→c1 u=c2 u):∀n c,c+n≤R.length→cJ c1 bd R a n c=cJ c2 bd R a n c
 |0,_,_=>rfl
 |
  n+1,c,hc=>by
  unfold cJ
  rw[eU h n (c+1) (by omega)]
  split
  ·rename_i hu
   rw[h _ (bA (t:=bW) (l:=R) (cw c) (by omega)) hu]
  ·rfl
theorem fU{k1 k2:Pl→Qy Rs}{s:bD}{m:DM}{p:Pl}(h:∀u∈s.2.2.2.1,u.2.1=p.1→∀v∈u.2.2.1,∀y,k1 (v.2.2.1,y)=k2 (v.2.2.1,y)):dt s m k1 p=dt s m k2 p:=by
 unfold dt
 rw[eU (fun u hu e=>eE (h u hu e) p.2.1 _ [] (d9 _)) _ 0 (by omega)]
theorem eV{s:bD}{lo:Zd}(hr:∀u∈s.2.2.2.1,∀v∈u.2.2.1,lo.idxOf v.2.2.1<lo.idxOf u.2.1)(m:DM):∀n n' p,lo.idxOf p.1<n→lo.idxOf p.1<n'→jA s m n p=jA s m n' p
 |
  n+1,n'+1,p,h,h'=>fU fun u hu e v hv y=>by
  have:=hr u hu v hv
  rw[e] at this
  exact eV hr m n n' _ (show lo.idxOf v.2.2.1<n by omega) (show lo.idxOf v.2.2.1<n' by omega)
def LQ(s:bD)(m:DM)(lo:Zd)(p:Pl):Qy Rs:=jA s m (lo.idxOf p.1+1) p
theorem lz{s:bD}{lo:Zd}(hr:∀u∈s.2.2.2.1,∀v∈u.2.2.1,lo.idxOf v.2.2.1<lo.idxOf u.2.1)(m:DM)(p:Pl):LQ s m lo p=dt s m (LQ s m lo) p:=by
 show dt s m (jA s m (lo.idxOf p.1)) p=_
 refine fU fun u hu e v hv y=>?_
 have:=hr u hu v hv
 rw[e] at this
 exact eV hr m _ _ _ this (Nat.lt_succ_self _)
structure MY(w:aU)(PS:Zd)(U:List Pl)(ix:Ix)(d k:Int)(O:Pl→An):Prop where
 wy:WY w PS U ix
 ra:∀p:Pl,p.2.1∈PS→mM (w.1,(cX w.1.1 ix p,())) p.1 p.2.1 p.2.2.1 d k=some (O p)
structure MX(w:aU)(lo PS:Zd)(U:List Pl)(ix:Ix)(m:DM)(d k:Int)(O:Pl→An)(L:Pl→Qy Rs):Prop where
 wx:WX w lo PS U ix
 my:MY w PS U ix d k O
 fix:∀p,L p=dt w.1.1 m L p
variable{w:aU} {lo PS:Zd} {U:List Pl} {ix:Ix} {m:DM} {d k:Int} {O:Pl→An} {L:Pl→Qy Rs}
def FG(r:Rs):Prop:=r.2.2.1.length≤3∧∀y∈r.2.2.1,y.2.2.2.1.length≤1000
theorem FG.zero:FG zR:=⟨cV _,fun y hy=>(by cases hy)⟩
structure MI(s:bD)(PS:Zd)(U:List Pl)(O:Pl→An)(L:Pl→Qy Rs)(fo:FM)(se:SM)(rs:List Rd):Prop where
 fi:FI s PS U fo se rs
 vl:∀e∈fo,e.2=((L e.1).run O).1∧(∀r∈((L e.1).run O).2,r∈rs)∧FG ((L e.1).run O).1
 si:SJ se rs
theorem MI.nil(s:bD)(PS:Zd)(U:List Pl)(O:Pl→An)(L:Pl→Qy Rs):MI s PS U O L [] [] []:=⟨FI.nil s PS U,fun e he=>(by cases he),fun r=>⟨fun h=>(by cases h),fun h=>(by cases h)⟩⟩
theorem MI.put{s:bD}{fo:FM}{se se':SM}{rs:List Rd}(h:MI s PS U O L fo se rs){p:Pl}(hf:FI s PS U (bJ aQ p ((L p).run O).1 fo) se' (bB rs ((L p).run O).2))(hs:SJ se' (bB rs ((L p).run O).2))(hg:FG ((L p).run O).1):MI s PS U O L (bJ aQ p ((L p).run O).1 fo) se' (bB rs ((L p).run O).2) where
 fi:=hf
 vl e he:=by
  rcases dB (kt:=aQ) he with rfl|he
  ·exact⟨rfl,fun r hr=>(eK ..).2 (Or.inr hr),hg⟩
  ·exact⟨(h.vl e he).1,fun r hr=>(eK ..).2 (Or.inl ((h.vl e he).2.1 r hr)),(h.vl e he).2.2⟩
 si:=hs
def LP(w:aU)(PS:Zd)(U:List Pl)(ix:Ix)(m:DM)(d k:Int)(O:Pl→An)(L:Pl→Qy Rs)(b:Bool)(z:Unit)(p:Pl)(rs:List Rd)(r:aU×Ix×Int×Int×Bool×DM×Unit×FM×SM×Rs×List Rd):Prop:=
 ∃fo se,r=(w,ix,d,k,b,m,z,fo,se,((L p).run O).1,bB rs ((L p).run O).2)∧MI w.1.1 PS U O L fo se (bB rs ((L p).run O).2)∧(((L p).run O).1.2.2.2.1=true→FV w.1.1 PS ((L p).run O).1.1 p.1)∧FG ((L p).run O).1
theorem rL(X:MY w PS U ix d k O)(q0:Q0)(q1:Q1)(p:Pl)(hf:L p=dt w.1.1 m L p)(b:Bool)(z:Unit){fo:FM}{se:SM}{rs:List Rd}(h:MI w.1.1 PS U O L fo se rs)(hU:p∈U)(hP:p.2.1∈PS)
 (hd:aO (.int .i64) .bool p.1 (bC m)=true→W (lk q0 q1 p w ix d k b m z fo se rs) (LP w PS U ix m d k O L b z p rs)):W (jc q0 q1 p w ix d k b m z fo se rs) (LP w PS U ix m d k O L b z p rs):=by
 have hB:=hB
 unfold jc
 cases hp:ek aQ p fo with
 |
  true=>
  rw[aA rfl]
  obtain⟨i,hi⟩:=oe (kt:=aQ) (vt:=fq) rfl hp
  have he:=nT hi
  obtain⟨v1,v2,v3⟩:=h.vl _ he
  have v1:aO aQ fq p fo=((L p).run O).1:=v1
  have hx:=h.fi.ok _ he
  rw[v1] at hx ⊢
  have e:=gK _ _ v2
  exact⟨_,rfl,fo,se,by rw[e],by rw[e];exact h,hx,v3⟩
 |
  false=>
  rw[aB (by decide)]
  cases hder:aO (.int .i64) .bool p.1 (bC m) with
  |
   true=>
   rw[aA rfl]
   refine aY.2 (nG.2 ((hd hder).mono fun r hr=>?_))
   obtain⟨fo',se',rfl,h',hx,hg3⟩:=hr
   refine⟨_,rfl,?_⟩
   rw[kE]
   dsimp only
   have hl:=h'.fi.len
   have hl2:=X.wy.len
   have hg:fo'.length≤(bJ aQ p ((L p).run O).1 fo').length:=la (kt:=aQ)
   have h1:=h'.fi.se
   have h2:=h'.fi.rs
   have e:=gK _ _ fun r hr=>(eK ((L p).run O).2 rs r).2 (Or.inr hr)
   rw[aA (show fo'.length+1≤aF by omega)]
   refine⟨_,rfl,_,_,rfl,?_,hx,hg3⟩
   have h3:MI w.1.1 PS U O L (bJ aQ p ((L p).run O).1 fo') se' (bB (bB rs ((L p).run O).2) ((L p).run O).2):=h'.put (by rw[e];exact h'.fi.put hU hx (by omega) (by omega)) (by rw[e];exact h'.si) hg3
   rw[e] at h3
   exact h3
  |
   false=>
   rw[aB (by decide)]
   obtain⟨M,y,x,n,se',rs',e1,e2,e3,hl,hr⟩:=rJ X.wy p d k b m z h.fi hp hU hP
   have e1':=ld X.wy p d k b m z fo se rs
   rw[e1'] at e1
   have eL:cX w.1.1 ix p=M:=by
    have e:=fK e1
    simp only[iX,true_and,mT] at e
    exact e
   subst eL
   have eO:O p=(y,x,n):=fK ((X.ra p hP).symm.trans e2)
   have eq:(L p).run O=((x,(0,([],(y,())))),n):=by
    rw[hf]
    unfold dt
    rw[hder,aB (by decide)]
    unfold Qy.run
    rw[eO]
    unfold Qy.run
    rw[cW]
   have e4:kX n=some n:=rfl
   obtain⟨fo2,se2,x2,rs2,er,h',hx⟩:=hr
   cases er
   have hfr:eP n se rs=some (se',rs'):=by
    unfold gj at e3
    split at e3
    ·cases hq:eP n se rs with
     |none=>rw[hq] at e3;cases e3
     |some q=>rw[hq] at e3;cases e3;rfl
    ·cases e3
   obtain⟨s1,s2⟩:=fH n se rs se' rs' hfr h.si
   subst s1
   rw[e1',aD]
   dsimp only
   rw[dU,dU,dU,dU,e2,aD]
   dsimp only
   rw[e4,aD,e3,aD,aC]
   dsimp only
   rw[aA hl]
   have hg3:FG ((L p).run O).1:=by rw[eq];exact⟨cV _,fun y hy=>(by cases hy)⟩
   refine⟨_,rfl,_,_,by rw[eq],?_,by rw[eq];exact hx,hg3⟩
   have h3:MI w.1.1 PS U O L (bJ aQ p ((L p).run O).1 fo) se' (bB rs ((L p).run O).2):=h.put (by rw[eq];exact h') (by rw[eq];exact s2) hg3
   rw[eq] at h3 ⊢
   exact h3
theorem ni{u:Ru}{l:List In}(hN:NB w.1.1)(hw:u.2.2.2.1.length≤aF)(hR:RK (cR w.1.1 u))(hL:LI w.1.1 PS u l)(hl:l.length=u.2.2.1.length)(ix:Ix)(d k:Int)(b:Bool)(m:DM)(z:Unit)(fo:FM)(se:SM)(rs:List Rd):
 fw u w ix d k b m z l fo se rs=some (gi w.1.1 u l,w,ix,d,k,b,m,z,l,fo,se,rs):=by
 obtain⟨y,hy⟩:=tX hN hw hR hL hl
 have e:gi w.1.1 u l=y:=by unfold gi;rw[hy (w0 w.1.1) rfl none 0 0 false none () [] [] []]
 rw[e]
 exact hy w rfl ix d k b m z fo se rs
theorem lN{u:Ru}{l:List In}(hw:u.2.2.2.2.1.length≤aF)(hR:RK (cR w.1.1 u))(hL:LI w.1.1 PS u l)(hl:l.length=u.2.2.1.length)(hf:1≤(aP w.1.1 u.2.1).length)(hf2:(aP w.1.1 u.2.1).length≤1000)(p:Int)(hp:p∈PS)(h0:(0:Int)∈PS)(hc:∀t∈u.2.2.2.2.1,t.2.2.1.2.2.2.2.1∈PS):
 FV w.1.1 PS (cI w.1.1 u p l) u.2.1∧∀ix d k b m z fo se rs,fv u p l w ix d k b m z fo se rs=some (w,ix,d,k,b,m,z,fo,se,rs,cI w.1.1 u p l):=by
 obtain⟨x,hx,hy⟩:=pW hw hR hL hl hf hf2 p hp h0 hc
 have e:cI w.1.1 u p l=x:=by unfold cI;rw[hy (w0 w.1.1) rfl none 0 0 false none () [] [] []]
 rw[e]
 exact⟨hx,hy w rfl⟩
def CQ(w:aU)(PS:Zd)(U:List Pl)(ix:Ix)(m:DM)(d k:Int)(O:Pl→An)(L:Pl→Qy Rs)(b:Bool)(z:Unit)(u:Ru)(p:Int)(l:List In)(y:(Bool×List In)×List Rd)(rs:List Rd)(r:Bool×Ru×Int×aU×Ix×Int×Int×Bool×DM×Unit×FM×SM×List In×List Rd):Prop:=
 ∃fo se,r=(y.1.1,u,p,w,ix,d,k,b,m,z,fo,se,y.1.2,bB rs y.2)∧MI w.1.1 PS U O L fo se (bB rs y.2)∧(y.1.1=false→y.1.2=l)∧(y.1.1=true→LI w.1.1 PS u y.1.2∧y.1.2.length=u.2.2.1.length)
theorem qb(X:MX w lo PS U ix m d k O L)(q0:Q0)(q1:Q1)(p:Pl)(b:Bool)(z:Unit){fo:FM}{se:SM}{rs:List Rd}(h:MI w.1.1 PS U O L fo se rs)(hP:p.2.1∈PS)(hm:aO (.int .i64) .bool p.1 (bC m)=true)
 (hq:∀u∈w.1.1.2.2.2.1,u.2.1=p.1→∀fo se rs,MI w.1.1 PS U O L fo se rs→W (q1 (u,p.2.1,[],w,ix,d,k,b,m,z,fo,se,rs,())) (CQ w PS U ix m d k O L b z u p.2.1 [] ((aS L w.1.1 m u p.2.1 u.2.2.1.length []).run O) rs)):
 W (lk q0 q1 p w ix d k b m z fo se rs) (LP w PS U ix m d k O L b z p rs):=by
 have hB:=hB
 have hr:=X.wx.cg.sw.rules
 let Z:Nat→Rs×List Rd:=fun c=>(cJ (fun u=>aS L w.1.1 m u p.2.1 u.2.2.1.length []) (fun u l=>cI w.1.1 u p.2.1 l) w.1.1.2.2.2.1 p.1 (w.1.1.2.2.2.1.length -c) c).run O
 have eZ:(L p).run O=Z 0:=by rw[X.fix p];unfold dt;rw[aA hm];rfl
 unfold lk
 refine aY.2 (W.ct (B:=fun r=>(Z 0).1=zR∧∃fo' se',r=(w,ix,d,k,b,m,z,fo',se',(0:Int),(0:Int),(0:Int),(0:Int),false,bB rs (Z 0).2)∧MI w.1.1 PS U O L fo' se' (bB rs (Z 0).2)) (Q:=LP w PS U ix m d k O L b z p rs) ?_ (fun r hr=>?_) fun r hr=>hr)
 ·refine W.mono (ir (L:=oT q0 q1) rfl (fun c(s:FM×SM×List Rd)(r:dR _ _)=>CT (fun r=>(Z c).1=zR∧∃fo' se',r=(w,ix,d,k,b,m,z,fo',se',(0:Int),(0:Int),(0:Int),(0:Int),false,bB s.2.2 (Z c).2)∧MI w.1.1 PS U O L fo' se' (bB s.2.2 (Z c).2)) (fun r=>∃fo' se',r=(w,ix,d,k,b,m,z,fo',se',(Z c).1,bB s.2.2 (Z c).2)∧MI w.1.1 PS U O L fo' se' (bB s.2.2 (Z c).2)∧FV w.1.1 PS (Z c).1.1 p.1∧FG (Z c).1) r) w.1.1.2.2.2.1.length (fun c(s:FM×SM×List Rd)=>(w.1.1.2.2.2.1,(w.1.1.2.2.2.1.length:Int),(c:Int),w,ix,d,k,b,m,z,s.1,s.2.1,p,(0:Int),(0:Int),(0:Int),(0:Int),false,s.2.2)) (fun _ s=>MI w.1.1 PS U O L s.1 s.2.1 s.2.2) ?step ?stop _ 0 (fo,se,rs) (by omega) (by omega) h) fun r hr=> ?fin
  case fin=>
   refine CT.mono (fun _ h=>h) (fun r h=>?_) r hr
   obtain⟨fo',se',rfl,h',hx,hg⟩:=h
   unfold LP
   rw[eZ]
   exact⟨fo',se',rfl,h',fun _=>hx,hg⟩
  case step=>
   rintro rec c ⟨fo,se,rs⟩ hc hI kk
   dsimp only at hI ⊢
   have hw2:=fM c (by omega)
   have hc1:(c:Int)<(w.1.1.2.2.2.1.length:Int):=by omega
   have hmm:=bA (t:=bW) (l:=w.1.1.2.2.2.1) (cw c) hc1
   rw[bZ hc1,dH c,aA hc1]
   have eq:Z c=(if(nth bW w.1.1.2.2.2.1 (c:Int)).2.1=p.1 then(aS L w.1.1 m (nth bW w.1.1.2.2.2.1 (c:Int)) p.2.1 (nth bW w.1.1.2.2.2.1 (c:Int)).2.2.1.length []).bind fun y=>if y.1=true then .ret (cI w.1.1 (nth bW w.1.1.2.2.2.1 (c:Int)) p.2.1 y.2,((c:Int),(y.2,(true,())))) else cJ (fun u=>aS L w.1.1 m u p.2.1 u.2.2.1.length []) (fun u l=>cI w.1.1 u p.2.1 l) w.1.1.2.2.2.1 p.1 (w.1.1.2.2.2.1.length -(c+1)) (c+1) else cJ (fun u=>aS L w.1.1 m u p.2.1 u.2.2.1.length []) (fun u l=>cI w.1.1 u p.2.1 l) w.1.1.2.2.2.1 p.1 (w.1.1.2.2.2.1.length -(c+1)) (c+1):Qy Rs).run O:=by
    show(cJ _ _ _ _ _ _).run O=_
    rw[show w.1.1.2.2.2.1.length -c=(w.1.1.2.2.2.1.length -(c+1))+1 by omega]
    rfl
   rw[eq]
   generalize nth bW w.1.1.2.2.2.1 (c:Int)=u at hmm ⊢
   by_cases hu:u.2.1=p.1
   ·rw[aB (show¬(!decide (u.2.1=p.1))=true by simp[hu]),aA hu,Qy.run_bind]
    obtain⟨r,er,fo',se',rfl,h',y0,y1⟩:=hq u hmm hu fo se rs hI
    have ea:l0 q0 q1 u p.2.1 w ix d k b m z fo se rs=(if(!((aS L w.1.1 m u p.2.1 u.2.2.1.length []).run O).1.1)=true then(some (false,w,ix,d,k,b,m,z,fo',se',([]:List In),bB rs ((aS L w.1.1 m u p.2.1 u.2.2.1.length []).run O).2)) else(some (true,w,ix,d,k,b,m,z,fo',se',((aS L w.1.1 m u p.2.1 u.2.2.1.length []).run O).1.2,bB rs ((aS L w.1.1 m u p.2.1 u.2.2.1.length []).run O).2))):=by
     unfold l0;rw[er];rfl
    rw[ea]
    generalize (aS L w.1.1 m u p.2.1 u.2.2.1.length []).run O=y at h' y0 y1 ⊢
    obtain⟨⟨y,l⟩,t⟩:=y
    dsimp only at h' y0 y1 ⊢
    cases y with
    |
     false=>
     rw[aA (show(!false)=true from rfl),aD]
     dsimp only
     rw[aB (by decide),aB (by decide),hw2,cq]
     exact kk (fo',se',bB rs t) h'
    |
     true=>
     obtain⟨hLI,hlen⟩:=y1 rfl
     have hR:=X.wx.cg.tg.rules u hmm
     have hf:=X.wx.cg.tg.fields _ (bA (t:=aR) (l:=w.1.1.2.2.1) hR.h0 hR.h1)
     have hs:=(X.wx.cg.sw.rl u hmm).2.2
     obtain⟨hx,hbu⟩:=lN (w:=w) (by omega) hR hLI hlen hf (X.wx.fl _ hR.h0 hR.h1) p.2.1 hP X.wx.zero (X.wx.consts u hmm)
     rw[aB (show¬(!true)=true by decide),aD]
     dsimp only
     rw[aA rfl,aA rfl,hbu ix d k b m z fo' se',aD]
     unfold Qy.run
     rw[cW]
     refine⟨_,rfl,fo',se',rfl,h',hu▸hx,?_,fun y hy=>?_⟩
     ·show l.length≤3
      rw[hlen];exact hR.n3
     ·obtain⟨j,hj,rfl⟩:=iB hy
      have hj2:j<l.length:=hj
      have hF:FO (cR w.1.1 u) j:=hR.fo j (show j<u.2.2.1.length by omega)
      have:=(hLI.ok (j:Int) (cw j) (by omega)).1
      rw[cH (t:=bR) hj2] at this
      rw[this]
      exact X.wx.fl _ hF.s0 hF.s1
   ·rw[aA (show(!decide (u.2.1=p.1))=true by simp[hu]),aB hu,hw2]
    exact kk (fo,se,rs) hI
  case stop=>
   rintro rec ⟨fo,se,rs⟩ hI
   dsimp only at hI ⊢
   rw[eG (by omega)]
   have e:Z w.1.1.2.2.2.1.length=(zR,[]):=by
    show(cJ _ _ _ _ (w.1.1.2.2.2.1.length -w.1.1.2.2.2.1.length) _).run O=_
    rw[Nat.sub_self];rfl
   rw[e]
   exact⟨_,rfl,rfl,fo,se,rfl,hI⟩
 ·obtain⟨e0,fo',se',rfl,h'⟩:=hr
  unfold LP
  rw[eZ,e0]
  exact⟨_,rfl,fo',se',rfl,h',fun h=>(by cases h),FG.zero⟩
variable{w:aU} {lo PS:Zd} {U:List Pl} {ix:Ix} {m:DM} {d k:Int} {O:Pl→An} {L:Pl→Qy Rs}
abbrev CH:Ru×Int×aU×Ix×Int×Int×Bool×DM×Unit×FM×SM×(List In)×(List Rd)→Option (Bool×Ru×Int×aU×Ix×Int×Int×Bool×DM×Unit×FM×SM×List In×List Rd):=fun x=>some (false,x.1,x.2.1,x.2.2.1,x.2.2.2.1,x.2.2.2.2.1,x.2.2.2.2.2.1,x.2.2.2.2.2.2.1,x.2.2.2.2.2.2.2.1,x.2.2.2.2.2.2.2.2.1,x.2.2.2.2.2.2.2.2.2.1,x.2.2.2.2.2.2.2.2.2.2.1,x.2.2.2.2.2.2.2.2.2.2.2.1,x.2.2.2.2.2.2.2.2.2.2.2.2)
theorem qc(q0:Q0)(q1:Q1)(u:Ru)(p:Int)(l:List In)(b:Bool)(z:Unit)(fo:FM)(se:SM)(rs:List Rd)(hlt:l.length<u.2.2.1.length)
 (ho:(nth bE u.2.2.1 (l.length:Int)).2.2.2.1.2.2.1= -1∨(0≤(nth bE u.2.2.1 (l.length:Int)).2.2.2.1.2.2.1∧(nth bE u.2.2.1 (l.length:Int)).2.2.2.1.2.2.1<(l.length:Int)∧0≤(nth bE u.2.2.1 (l.length:Int)).2.2.2.1.2.2.2.1∧(nth bE u.2.2.1 (l.length:Int)).2.2.2.1.2.2.2.1<((nth bR l (nth bE u.2.2.1 (l.length:Int)).2.2.2.1.2.2.1).2.2.2.1.length:Int))):
 fO q0 q1 u p l w ix d k b m z fo se rs=aI (U:=Ru×Int×aU×Ix×Int×Int×Bool×DM×Unit×FM×SM×(List In)×(List Rd)) (hJ q0 q1 (Int.toNat ((bT m (nth bE u.2.2.1 (l.length:Int)).2.2.1:Nat):Int)+1) (bO u p l,((bT m (nth bE u.2.2.1 (l.length:Int)).2.2.1:Nat):Int),(0:Int),u,p,w,ix,d,k,b,m,z,fo,se,nth bE u.2.2.1 (l.length:Int),l,rs)) CH:=by
 unfold fO bO bT
 rw[aB (show¬decide ((l.length:Int)=(u.2.2.1.length:Int))=true by simp;omega),dH _,aA (show(l.length:Int)<(u.2.2.1.length:Int) by omega)]
 generalize nth bE u.2.2.1 (l.length:Int)=v at ho
 by_cases hv:v.2.2.2.1.2.2.1= -1
 ·rw[aB (show¬(!decide (v.2.2.2.1.2.2.1=(-1:Int)))=true by simp[hv]),aC,aA hv]
  dsimp only
  by_cases hm:aO (.int .i64) .bool v.2.2.1 (bC m)=true
  ·rw[aA hm,aA hm,aC];rfl
  ·rw[aB hm,aB hm,aC];rfl
 ·obtain⟨a1,a2,a3,a4⟩:=ho.resolve_left hv
  rw[aA (show(!decide (v.2.2.2.1.2.2.1=(-1:Int)))=true by simpa using hv),aA a1,aA a2,aA a3,aA a4,aC,aB hv]
  dsimp only
  by_cases hm:aO (.int .i64) .bool v.2.2.1 (bC m)=true
  ·rw[aA hm,aA hm,aC];rfl
  ·rw[aB hm,aB hm,aC];rfl
theorem qd(X:MX w lo PS U ix m d k O L)(q0:Q0)(q1:Q1)(u:Ru)(hu:u∈w.1.1.2.2.2.1)(p:Int)(l:List In)(b:Bool)(z:Unit){fo:FM}{se:SM}{rs:List Rd}(h:MI w.1.1 PS U O L fo se rs)(hP:p∈PS)(hL:LI w.1.1 PS u l)
 (hq0:∀y:Pl,y∈U→y.2.1∈PS→l.length<u.2.2.1.length→y.1=(nth bE u.2.2.1 (l.length:Int)).2.2.1→∀fo se rs,MI w.1.1 PS U O L fo se rs→W (q0 (y,w,ix,d,k,b,m,z,fo,se,rs,())) (LP w PS U ix m d k O L b z y rs))
 (hq1:∀l',LI w.1.1 PS u l'→l'.length=l.length+1→∀fo se rs,MI w.1.1 PS U O L fo se rs→W (q1 (u,p,l',w,ix,d,k,b,m,z,fo,se,rs,())) (CQ w PS U ix m d k O L b z u p l' ((aS L w.1.1 m u p (u.2.2.1.length -l'.length) l').run O) rs)):
 W (fO q0 q1 u p l w ix d k b m z fo se rs) (CQ w PS U ix m d k O L b z u p l ((aS L w.1.1 m u p (u.2.2.1.length -l.length) l).run O) rs):=by
 have hB:=hB
 have hR:RK (cR w.1.1 u):=X.wx.cg.tg.rules u hu
 by_cases hl:l.length=u.2.2.1.length
 ·have hdl:decide ((l.length:Int)=(u.2.2.1.length:Int))=true:=bQ (by omega)
  rw[show u.2.2.1.length -l.length=0 by omega]
  refine⟨(gi w.1.1 u l,u,p,w,ix,d,k,b,m,z,fo,se,l,rs),?_,fo,se,rfl,h,fun _=>rfl,fun _=>⟨hL,hl⟩⟩
  unfold fO
  rw[aA hdl,ni X.wx.cg.sw.nb (X.wx.cg.sw.rl u hu).2.1 hR hL hl];rfl
 ·have hll:=hL.len
  have hlt:l.length<u.2.2.1.length:=by omega
  have hn3:u.2.2.1.length≤3:=hR.n3
  have hF:FO (cR w.1.1 u) l.length:=hR.fo l.length hlt
  have hs0:0≤(nth bE u.2.2.1 (l.length:Int)).2.2.1:=hF.s0
  have hs1:(nth bE u.2.2.1 (l.length:Int)).2.2.1<(w.1.1.2.2.1.length:Int):=hF.s1
  have hpush:∀x:In,FV w.1.1 PS x (nth bE u.2.2.1 (l.length:Int)).2.2.1→LI w.1.1 PS u (l++[x]):=fun x hx=>hL.push hlt hx
  have ho:bO u p l∈PS∧((nth bE u.2.2.1 (l.length:Int)).2.2.2.1.2.2.1= -1∨(0≤(nth bE u.2.2.1 (l.length:Int)).2.2.2.1.2.2.1∧(nth bE u.2.2.1 (l.length:Int)).2.2.2.1.2.2.1<(l.length:Int)∧0≤(nth bE u.2.2.1 (l.length:Int)).2.2.2.1.2.2.2.1∧(nth bE u.2.2.1 (l.length:Int)).2.2.2.1.2.2.2.1<((nth bR l (nth bE u.2.2.1 (l.length:Int)).2.2.2.1.2.2.1).2.2.2.1.length:Int))):=by
   unfold bO
   by_cases apy:(nth bE u.2.2.1 (l.length:Int)).2.2.2.1.2.2.1= -1
   ·rw[aA apy];exact⟨hP,Or.inl apy⟩
   ·rcases hF.of with h1|h1
    ·exact absurd h1 apy
    ·obtain⟨a1,a2,a3,a4,a5⟩:=gB hL (fL _) h1
     rw[aB apy]
     exact⟨a5,Or.inr ⟨a1,a2,a3,a4⟩⟩
  rw[qc q0 q1 u p l b z fo se rs hlt ho.2]
  obtain⟨ho,_⟩:=ho
  rw[show u.2.2.1.length -l.length=(u.2.2.1.length -(l.length+1))+1 by omega]
  unfold aS
  have hn4:bT m (nth bE u.2.2.1 (l.length:Int)).2.2.1≤4:=by unfold bT;split<;>omega
  have hch:∀x:In,LI w.1.1 PS u (l++[x])→∀fo se rs,MI w.1.1 PS U O L fo se rs→W (q1 (u,p,l++[x],w,ix,d,k,b,m,z,fo,se,rs,())) (CQ w PS U ix m d k O L b z u p (l++[x]) ((aS L w.1.1 m u p (u.2.2.1.length -(l.length+1)) (l++[x])).run O) rs):=fun x hx fo se rs hI=>by
   have:=hq1 (l++[x]) hx (by rw[cz,bF]) fo se rs hI
   rw[cz,bF] at this
   exact this
  generalize aS L w.1.1 m u p (u.2.2.1.length -(l.length+1))=ch at hch ⊢
  generalize bT m (nth bE u.2.2.1 (l.length:Int)).2.2.1=n at hn4 ⊢
  generalize bO u p l=o at ho ⊢
  generalize nth bE u.2.2.1 (l.length:Int)=v at hs0 hs1 hpush hq0 ⊢
  let Y:Nat→(Bool×List In)×List Rd:=fun c=>(dg L ch v.2.2.1 o l (n -c) c).run O
  show W _ (CQ w PS U ix m d k O L b z u p l (Y 0) rs)
  refine aY.2 (W.ct (W.mono (ir (L:=hJ q0 q1) rfl (fun c(s:FM×SM×List Rd)(r:dR _ _)=>CT (fun r=>(Y c).1=(false,l)∧∃fo' se',r=(u,p,w,ix,d,k,b,m,z,fo',se',l,bB s.2.2 (Y c).2)∧MI w.1.1 PS U O L fo' se' (bB s.2.2 (Y c).2)) (fun r=>(Y c).1.1=true∧∃fo' se',r=(true,u,p,w,ix,d,k,b,m,z,fo',se',(Y c).1.2,bB s.2.2 (Y c).2)∧MI w.1.1 PS U O L fo' se' (bB s.2.2 (Y c).2)∧LI w.1.1 PS u (Y c).1.2∧(Y c).1.2.length=u.2.2.1.length) r) n (fun c(s:FM×SM×List Rd)=>(o,(n:Int),(c:Int),u,p,w,ix,d,k,b,m,z,s.1,s.2.1,v,l,s.2.2)) (fun _ s=>MI w.1.1 PS U O L s.1 s.2.1 s.2.2) ?step ?stop (Int.toNat (n:Int)+1) 0 (fo,se,rs) (by omega) (by omega) h) fun r hr=>hr) (fun r hr=>?_) fun r hr=>?_)
  case step=>
   rintro rec c ⟨fo,se,rs⟩ hc hI kk
   dsimp only at hI ⊢
   have hw2:=fM c (by omega)
   have hcn:decide ((c:Int)<(n:Int))=true:=bQ (by omega)
   have hl48:∀x:In,(l.length+List.length [x])*48≤aF:=fun x=>by rw[bF];omega
   have eY:Y c=((L (v.2.2.1,(o,((c:Int),())))).bind fun x=>if x.2.2.2.1=true then(ch (l++[x.1])).bind fun y=>if y.1=true then .ret y else dg L ch v.2.2.1 o l (n -(c+1)) (c+1) else dg L ch v.2.2.1 o l (n -(c+1)) (c+1):Qy (Bool×List In)).run O:=by
    show(dg _ _ _ _ _ _ _).run O=_
    rw[show n -c=(n -(c+1))+1 by omega]
    rfl
   rw[eY,Qy.run_bind,aA hcn]
   obtain⟨r,er,fo',se',rfl,h',hx,_⟩:=hq0 (v.2.2.1,(o,((c:Int),()))) (X.wx.pl _ _ _ hs0 hs1 ho (cw c) (by omega)) ho hlt rfl fo se rs hI
   rw[er,aD]
   dsimp only at h' hx ⊢
   generalize (L (v.2.2.1,(o,((c:Int),())))).run O=x at h' hx ⊢
   obtain⟨x,t⟩:=x
   dsimp only at h' hx ⊢
   cases hk:x.2.2.2.1 with
   |
    false=>
    rw[aB (by decide),aB (by decide),hw2,cq]
    exact kk (fo',se',bB rs t) h'
   |
    true=>
    rw[aA rfl,aA (hl48 x.1),aA rfl,Qy.run_bind]
    obtain⟨r,er2,fo2,se2,rfl,h2,y0,y1⟩:=hch x.1 (hpush x.1 (hx hk)) fo' se' (bB rs t) h'
    rw[er2,aD]
    generalize (ch (l++[x.1])).run O=y at h2 y0 y1 ⊢
    obtain⟨⟨y,l2⟩,t2⟩:=y
    dsimp only at h2 y0 y1 ⊢
    cases y with
    |
     true=>
     rw[aA rfl,aA rfl]
     unfold Qy.run
     rw[cW]
     rw[cq]
     exact⟨_,rfl,rfl,fo2,se2,rfl,h2,y1 rfl⟩
    |
     false=>
     have e:=y0 rfl
     subst e
     have e1:aV (((l++[x.1]).length:Int) -(1:Int))=(l.length:Int):=by
      rw[cz,bF]
      rw[dO (by omega) (by omega)]
      omega
     have e3:(l.length:Int)≤((l++[x.1]).length:Int):=by rw[cz,bF];omega
     have ff:¬false=true:=by decide
     rw[aB ff,e1,dH _,aA e3,dT,Nat.sub_zero,List.take_left,hw2,aB ff,cq,cq]
     exact kk (fo2,se2,bB (bB rs t) t2) h2
  case stop=>
   rintro rec ⟨fo,se,rs⟩ hI
   dsimp only at hI ⊢
   rw[eG (by omega)]
   have e:Y n=((false,l),[]):=by
    show(dg _ _ _ _ _ (n -n) _).run O=_
    rw[Nat.sub_self];rfl
   rw[e]
   exact⟨_,rfl,rfl,fo,se,rfl,hI⟩
  ·obtain⟨e0,fo',se',rfl,h'⟩:=hr
   exact⟨_,rfl,fo',se',by rw[e0],h',fun _=>by rw[e0],fun h=>by rw[e0] at h;cases h⟩
  ·obtain⟨e0,fo',se',rfl,h',h2⟩:=hr
   exact⟨fo',se',by rw[e0],h',(fun h=>by rw[e0] at h;cases h),fun _=>h2⟩
theorem zM(X:MX w lo PS U ix m d k O L)(b:Bool)(z:Unit):∀n:Nat,
 (∀(p:Pl) fo se rs,MI w.1.1 PS U O L fo se rs→p∈U→p.2.1∈PS→5*(lo.idxOf p.1+1)≤n→W ((du n).1 (p,w,ix,d,k,b,m,z,fo,se,rs,())) (LP w PS U ix m d k O L b z p rs))∧
 (∀u∈w.1.1.2.2.2.1,∀(q:Int) l fo se rs,MI w.1.1 PS U O L fo se rs→q∈PS→LI w.1.1 PS u l→5*lo.idxOf u.2.1+(u.2.2.1.length -l.length)+1≤n→W ((du n).2 (u,q,l,w,ix,d,k,b,m,z,fo,se,rs,())) (CQ w PS U ix m d k O L b z u q l ((aS L w.1.1 m u q (u.2.2.1.length -l.length) l).run O) rs)):=by
 intro n
 induction n with
 |zero=>exact⟨fun p fo se rs _ _ _ h=>by omega,fun u _ q l fo se rs _ _ _ h=>by omega⟩
 |
  succ n ih=>
  refine⟨fun p fo se rs h hU hP hn=>?_,fun u hu q l fo se rs h hP hL hn=>?_⟩
  ·exact rL X.my (du n).1 (du n).2 p (X.fix p) b z h hU hP fun hm=>qb X _ _ p b z h hP hm fun u hu hup fo se rs h=>ih.2 u hu p.2.1 [] fo se rs h hP (LI.nil _ _ _) (by
    have hn3:u.2.2.1.length≤3:=(X.wx.cg.tg.rules u hu).n3
    rw[hup,fZ]
    omega)
  ·exact qd X (du n).1 (du n).2 u hu q l b z h hP hL (fun y hy hyP hlt hy1 fo se rs h=>ih.1 y fo se rs h hy hyP (by
    have hpre:=X.wx.cg.rk.pre u hu _ (bA (t:=bE) (l:=u.2.2.1) (cw l.length) (show(l.length:Int)<(u.2.2.1.length:Int) by omega))
    rw[←hy1] at hpre
    omega)) fun l' hL' hl' fo se rs h=>ih.2 u hu q l' fo se rs h hP hL' (by
    have:=hL'.len
    omega)
theorem nj(X:MX w lo PS U ix m d k O L)(b:Bool)(z:Unit)(p:Pl){fo:FM}{se:SM}{rs:List Rd}(h:MI w.1.1 PS U O L fo se rs)(hU:p∈U)(hP:p.2.1∈PS):W (iz p w ix d k b m z fo se rs) (LP w PS U ix m d k O L b z p rs):=by
 have hl:=X.wx.cg.rk.len
 have hm:=X.wx.cg.tg.many
 have hi:lo.idxOf p.1≤lo.length:=List.idxOf_le_length
 exact(zM X b z dG).1 p fo se rs h hU hP (by show _≤18446744073709551616;omega)
theorem nk(X:MY w PS U ix d k O)(b:Bool)(z:Unit)(p:Pl)(hf:L p=dt w.1.1 m L p)(hm:¬aO (.int .i64) .bool p.1 (bC m)=true){fo:FM}{se:SM}{rs:List Rd}(h:MI w.1.1 PS U O L fo se rs)(hU:p∈U)(hP:p.2.1∈PS):W (iz p w ix d k b m z fo se rs) (LP w PS U ix m d k O L b z p rs):=by
 have key:∀n,W ((du (n+1)).1 (p,w,ix,d,k,b,m,z,fo,se,rs,())) (LP w PS U ix m d k O L b z p rs):=fun n=>rL X (du n).1 (du n).2 p hf b z h hU hP fun h=>absurd h hm
 exact key 18446744073709551615
theorem nn(X:MY w PS U ix d k O)(b:Bool)(z:Unit)(p:Pl){fo:FM}{se:SM}{rs:List Rd}(h:MI w.1.1 PS U O L fo se rs)(hU:p∈U)(hP:p.2.1∈PS)(ho:W (iz p w ix d k b m z fo se rs) (LP w PS U ix m d k O L b z p rs)):W (da p w ix d k b m z fo se rs) (LP w PS U ix m d k O L b z p rs):=by
 suffices hW:∃r,da p w ix d k b m z fo se rs=some r by
  obtain⟨r,er⟩:=hW
  obtain⟨r',er',hr⟩:=ho
  rw[yH er] at er'
  cases er'
  exact⟨r,er,hr⟩
 have ho:=ho.imp fun r h=>h.1
 unfold da
 cases hp:ek aQ p fo with
 |true=>rw[aA rfl];exact ho
 |
  false=>
  rw[aB (by decide)]
  split
  ·rw[Eu];exact ho
  ·obtain⟨M,y,x,n,se',rs',e1,e2,e3,hl,_⟩:=rJ X.wy p d k b m z h.fi hp hU hP
   have e4:kX n=some n:=rfl
   rw[e1,aD]
   dsimp only
   rw[e2,aD]
   dsimp only
   rw[e4,aD,e3,aD]
   dsimp only
   rw[aA hl]
   exact⟨_,rfl⟩
abbrev Ky:=iw
abbrev Fa:=iF
abbrev cE(a p i:Int)(c:Nat):Ky:=(a,(p,(aV ((aV ((16:Int)*i))+(c:Int)),())))
abbrev dC(a p i d:Int)(c:Nat):Rd:=(cE a p i c,(d,(aV (d+(1:Int)),())))
def sg(d:Int)(r:Rd):Rd:=(r.1,(d,(aV (d+(1:Int)),())))
def kC(s:bD)(a:Int):Bool:=(KL s a).getD false
def ik(p i:Int):Bool:=(vO p i).getD false
def kD(s:bD)(a c x:Int):Bool:=(Ed s a c x).getD false
def zI:In:=(0,(0,(0,([],()))))
def dZ(s:bD)(V:Ky→Int×Bool)(a p i d:Int):Nat→Nat→List Int→List Rd→An
 |0,_,t,rs=>(true,(a,(p,(i,(t,())))),rs)
 |n+1,c,t,rs=>if((V (cE a p i c)).2&&kD s a c (V (cE a p i c)).1)=true then dZ s V a p i d n (c+1) (t++[(V (cE a p i c)).1]) (rs++[dC a p i d c]) else(false,zI,rs++[dC a p i d c])
def eF(s:bD)(V:Ky→Int×Bool)(a p i d:Int):An:=
 if kC s a=true∧ik p i=true∧0≤d∧d<1024 then dZ s V a p i d ((aP s a).length -1) 1 [p] [] else(false,zI,[])
theorem gL{s:bD}{V:Ky→Int×Bool}{a p i d:Int}:∀(n c:Nat)(t:Zd)(rs:List Rd),(∀r∈rs,r∈(dZ s V a p i d n c t rs).2.2)∧∀r∈(dZ s V a p i d n c t rs).2.2,r∈rs∨∃e,c≤e∧e<c+n∧r=dC a p i d e
 |0,_,_,_=>⟨fun _ h=>h,fun _ h=>Or.inl h⟩
 |
  n+1,c,t,rs=>by
  unfold dZ
  have hl:∀r∈rs++[dC a p i d c],r∈rs∨∃e,c≤e∧e<c+(n+1)∧r=dC a p i d e:=fun r hr=>(List.mem_append.1 hr).imp id fun h=>⟨c,cT _,by omega,List.mem_singleton.1 h⟩
  split
  ·obtain⟨h1,h2⟩:=gL (s:=s) (V:=V) (a:=a) (p:=p) (i:=i) (d:=d) n (c+1) (t++[(V (cE a p i c)).1]) (rs++[dC a p i d c])
   exact⟨fun r hr=>h1 r (iA _ hr),fun r hr=>(h2 r hr).elim (hl r) fun⟨e,e1,e2,e3⟩=>Or.inr ⟨e,by omega,by omega,e3⟩⟩
  ·exact⟨fun r hr=>iA _ hr,hl⟩
theorem jB{s:bD}{V V':Ky→Int×Bool}{a p i d d':Int}:∀(n c:Nat)(t:Zd)(rs:List Rd),(∀r∈(dZ s V a p i d n c t rs).2.2,V' r.1=V r.1)→dZ s V' a p i d' n c t (rs.map (sg d'))=((dZ s V a p i d n c t rs).1,(dZ s V a p i d n c t rs).2.1,(dZ s V a p i d n c t rs).2.2.map (sg d'))
 |0,_,_,_,_=>rfl
 |
  n+1,c,t,rs,h=>by
  have hm:dC a p i d c∈(dZ s V a p i d (n+1) c t rs).2.2:=by
   unfold dZ
   split
   ·exact(gL n (c+1) _ _).1 _ (iR _ (List.mem_singleton.2 rfl))
   ·exact iR _ (List.mem_singleton.2 rfl)
  have e:V' (cE a p i c)=V (cE a p i c):=h _ hm
  have em:rs.map (sg d')++[dC a p i d' c]=(rs++[dC a p i d c]).map (sg d'):=by rw[qD];rfl
  unfold dZ at h ⊢
  rw[e,em]
  split
  ·rename_i hc
   rw[aA hc] at h
   exact jB n (c+1) _ _ h
  ·rfl
theorem mh{s:bD}{V:Ky→Int×Bool}{a p i d:Int}{r:Rd}(h:r∈(eF s V a p i d).2.2):(∃c,c<(aP s a).length∧r=dC a p i d c)∧kC s a=true∧ik p i=true∧0≤d∧d<1024:=by
 unfold eF at h
 split at h
 ·rename_i hc
  refine⟨?_,hc⟩
  rcases(gL _ _ _ _).2 r h with h|⟨e,e1,e2,e3⟩
  ·cases h
  ·exact⟨e,by omega,e3⟩
 ·cases h
theorem iZ{s:bD}{V V':Ky→Int×Bool}{a p i d d':Int}(hd:0≤d∧d<1024↔0≤d'∧d'<1024)(h:∀r∈(eF s V a p i d).2.2,V' r.1=V r.1):eF s V' a p i d'=((eF s V a p i d).1,(eF s V a p i d).2.1,(eF s V a p i d).2.2.map (sg d')):=by
 unfold eF at h ⊢
 by_cases hc:kC s a=true∧ik p i=true∧0≤d∧d<1024
 ·rw[aA hc] at h ⊢
  rw[aA ⟨hc.1,hc.2.1,hd.1 hc.2.2⟩]
  exact jB _ _ _ [] h
 ·rw[aB hc,aB fun hc'=>hc ⟨hc'.1,hc'.2.1,hd.2 hc'.2.2⟩]
  rfl
theorem mi{s:bD}{V:Ky→Int×Bool}{a p i d:Int}:(eF s V a p i d).2.2.map (sg d)=(eF s V a p i d).2.2:=by
 have h:=iZ (s:=s) (V:=V) (V':=V) (a:=a) (p:=p) (i:=i) Iff.rfl (d:=d) fun _ _=>rfl
 exact(congrArg (fun x:An=>x.2.2) h).symm
theorem lO(v:aU)(s:bD)(hN:NB s)(hl:v.2.1.length≤aF)(c:Nat)(a p i d k:Int)(rs:List Rd)(hr:(rs.length+1)*40≤aF):
 ja (c:Int) a p i d v k s rs=some ((fb v.2.1 (cE a p i c) d k).1,((fb v.2.1 (cE a p i c) d k).2&&kD s a c (fb v.2.1 (cE a p i c) d k).1),a,p,i,d,v,k,s,rs++[dC a p i d c]):=by
 have e:rM v.2.1 (a,(p,(aV ((aV ((16:Int)*i))+(c:Int)),()))) d k=some (fb v.2.1 (cE a p i c) d k):=aA hl
 unfold ja O7
 rw[aD,aA (by rw[bF];exact hr),e,aD]
 generalize fb v.2.1 (cE a p i c) d k=r
 obtain⟨x,b⟩:=r
 dsimp only
 cases b with
 |false=>rfl
 |
  true=>
  obtain⟨q,hq⟩:=jI s hN a (c:Int) x
  unfold kD
  rw[aA rfl,hq]
  rfl
theorem lf(p i:Int):vO p i=some (ik p i)∧(ik p i=true→0≤i∧i<4):=by
 have hs:∃z,vO p i=some z∧(z=true→0≤i∧i<4):=by
  unfold vO
  have no:∀y:Zm,y=some false→∃z,y=some z∧(z=true→0≤i∧i<4):=fun y hy=>⟨false,hy,fun h=>(by cases h)⟩
  by_cases i0:0≤i
  ·by_cases i1:i<4
   ·have yes:∀y:Zm,(∃z,y=some z)→∃z,y=some z∧(z=true→0≤i∧i<4):=fun y ⟨z,hz⟩=>⟨z,hz,fun _=>⟨i0,i1⟩⟩
    apply yes
    refine gE ?_ fun v=>⟨v,rfl⟩
    repeat' (first|exact⟨_,rfl⟩|split)
   ·rw[bQ i0,cD i1]
    apply no
    split
    ·split<;>rfl
    ·rfl
  ·rw[cD i0]
   apply no
   split
   ·split<;>rfl
   ·rfl
 obtain⟨z,e,h⟩:=hs
 have e2:ik p i=z:=by unfold ik;rw[e];rfl
 rw[e2]
 exact⟨e,h⟩
theorem mI(v:aU)(hN:NB v.1.1)(hR:v.1.1.2.2.2.1.length≤aF)(hF:∀a,0≤a→a<(v.1.1.2.2.1.length:Int)→(aP v.1.1 a).length≤1000)(hl:v.2.1.length≤aF)(a p i d k:Int):
 mM v a p i d k=some (eF v.1.1 (fun q=>fb v.2.1 q d k) a p i d):=by
 have hB:=hB
 suffices hW:W (mM v a p i d k) fun r=>r=eF v.1.1 (fun q=>fb v.2.1 q d k) a p i d by
  obtain⟨r,e,rfl⟩:=hW
  exact e
 obtain⟨b,e,hb⟩:=dL v.1.1 hR a
 have eb:kC v.1.1 a=b:=by unfold kC;rw[e];rfl
 obtain⟨hz,_⟩:=lf p i
 unfold mM eF
 rw[e,aD,eb]
 cases b with
 |false=>exact⟨_,rfl,(aB fun h=>(by cases h.1)).symm⟩
 |
  true=>
  obtain⟨a0,a1,a2⟩:=hb rfl
  rw[aB (by decide),hz,aD]
  cases ik p i with
  |false=>exact⟨_,rfl,(aB fun h=>(by cases h.2.1)).symm⟩
  |
   true=>
   rw[aB (by decide)]
   by_cases d0:d<0
   ·rw[bZ d0];exact⟨_,rfl,(aB fun h=>by omega).symm⟩
   ·rw[aB (show¬decide (d<(0:Int))=true by simpa using d0)]
    by_cases d1:(1024:Int)≤d
    ·rw[bQ d1];exact⟨_,rfl,(aB fun h=>by omega).symm⟩
    ·rw[cD d1,aD,aB (by decide),aC,aA ⟨rfl,rfl,by omega,by omega⟩]
     dsimp only
     have hFa:=hF a a0 a1
     have e:(nth aR v.1.1.2.2.1 a).2.2.2.2.1=aP v.1.1 a:=rfl
     let Y:Nat→List Int→List Rd→An:=fun c t s=>dZ v.1.1 (fun q=>fb v.2.1 q d k) a p i d ((aP v.1.1 a).length -c) c t s
     refine aY.2 (W.ct (W.mono (ir (L:=px) rfl (fun c(u:List Int×List Rd)(r:dR _ _)=>CT (fun r=>∃t s,r=(a,p,i,(0:Int),(0:Int),(0:Int),t,s)∧Y c u.1 u.2=(true,(a,(p,(i,(t,())))),s)) (fun r=>r=Y c u.1 u.2) r) (aP v.1.1 a).length (fun c(u:List Int×List Rd)=>((c:Int),v,a,p,i,d,k,(0:Int),(0:Int),(0:Int),v.1.1,u.1,u.2)) (fun c u=>u.1.length≤c∧u.2.length≤c) ?step ?stop dG 1 ([p],[]) (by show _<18446744073709551616;omega) (by omega) ⟨cT _,cV _⟩) fun r hr=>hr) (fun r hr=>?_) fun r hr=>hr)
     case step=>
      rintro rec c ⟨t,s⟩ hc ⟨ht,hs⟩ kk
      dsimp only at ht hs ⊢
      have hw2:=fM c (by omega)
      rw[e,aA a0,aA a1,bZ (by omega),lO v v.1.1 hN hl c a p i d k s (by omega),aD]
      have eY:Y c t s=if((fb v.2.1 (cE a p i c) d k).2&&kD v.1.1 a c (fb v.2.1 (cE a p i c) d k).1)=true then Y (c+1) (t++[(fb v.2.1 (cE a p i c) d k).1]) (s++[dC a p i d c]) else(false,zI,s++[dC a p i d c]):=by
       show dZ _ _ _ _ _ _ _ _ _ _=_
       rw[show(aP v.1.1 a).length -c=((aP v.1.1 a).length -(c+1))+1 by omega]
       rfl
      rw[eY]
      dsimp only
      cases(fb v.2.1 (cE a p i c) d k).2&&kD v.1.1 a c (fb v.2.1 (cE a p i c) d k).1 with
      |false=>exact⟨_,rfl,rfl⟩
      |
       true=>
       rw[aB (by decide),aA rfl,aA (show(t.length+List.length [_])*8≤aF by rw[bF];omega),hw2]
       exact kk (_,_) ⟨by rw[cz,bF];omega,by rw[cz,bF];omega⟩
     case stop=>
      rintro rec ⟨t,s⟩ _
      dsimp only
      rw[e,aA a0,aA a1,eG (by omega)]
      refine⟨_,rfl,t,s,rfl,?_⟩
      show dZ _ _ _ _ _ _ (_ -_) _ _ _=_
      rw[Nat.sub_self]
      rfl
     ·obtain⟨t,s,rfl,h⟩:=hr
      exact⟨_,rfl,h.symm⟩
theorem jC{β:Type}{g:Nat→List β}:∀n:Nat,(∀c<n,g c= [])→(List.range n).flatMap g= []
 |0,_=>rfl
 |
  n+1,h=>by
  rw[List.range_succ,List.flatMap_append,jC n fun c hc=>h c (by omega),List.flatMap_cons,List.flatMap_nil,h n (by omega)]
  rfl
theorem jD{β:Type}{g:Nat→List β}{c:Nat}:∀n:Nat,c<n→(∀x<n,x≠c→g x= [])→(List.range n).flatMap g=g c
 |0,h,_=>by omega
 |
  n+1,h,hx=>by
  rw[List.range_succ,List.flatMap_append,List.flatMap_cons,List.flatMap_nil,cW]
  by_cases e:c=n
  ·subst e
   rw[jC _ fun x hx'=>hx x (by omega) (by omega),jP]
  ·rw[jD n (by omega) fun x hx'=>hx x (by omega),hx n (by omega) (by omega),cW]
def fI(s:bD)(l:List Fa)(p:Pl):List Fa:=if 0≤p.1∧p.1<(s.2.2.1.length:Int) then(List.range (aP s p.1).length).flatMap fun(c:Nat)=>dr (cE p.1 p.2.1 p.2.2.1 c) l else[]
theorem lP(s:bD)(l:List Fa)(ix:List (Ky×List Fa))(h:∀key,aO aQ (.slice 64 aN) key ix=dr key l)(p:Pl):cX s (some ix) p=fI s l p:=by
 have e:(fun(c:Nat)=>aO aQ (.slice 64 aN) (p.1,(p.2.1,(aV ((aV ((16:Int)*p.2.2.1))+(c:Int)),()))) (bC (some ix)))=fun(c:Nat)=>dr (cE p.1 p.2.1 p.2.2.1 c) l:=funext fun c=>h _
 unfold cX fI
 rw[e]
theorem np{a p i:Int}(i0:0≤i)(i1:i<4){c e:Nat}(hc:c≤1000)(he:e≤1000)(h:cE a p i c=cE a p i e):c=e:=by
 have h1:aV ((aV ((16:Int)*i))+(c:Int))=aV ((aV ((16:Int)*i))+(e:Int)):=congrArg (fun k:Ky=>k.2.2.1) h
 rw[dO (x:=(16:Int)*i) (by omega) (by omega),dO (by omega) (by omega),dO (by omega) (by omega)] at h1
 omega
theorem nr(s:bD)(l:List Fa){a p i:Int}(a0:0≤a)(a1:a<(s.2.2.1.length:Int))(hF:(aP s a).length≤1000)(i0:0≤i)(i1:i<4){c:Nat}(hc:c<(aP s a).length)(d k:Int):
 fb (fI s l (a,(p,(i,())))) (cE a p i c) d k=fb l (cE a p i c) d k:=by
 have e:(fI s l (a,(p,(i,())))).filter (cN (cE a p i c) k)=l.filter (cN (cE a p i c) k):=by
  have e1:fI s l (a,(p,(i,())))=(List.range (aP s a).length).flatMap fun(c:Nat)=>dr (cE a p i c) l:=aA ⟨a0,a1⟩
  rw[e1,List.filter_flatMap]
  rw[jD (c:=c) _ hc fun x hx hne=>?_]
  ·unfold dr
   rw[List.filter_filter]
   refine List.filter_congr fun x _=>?_
   unfold cN
   cases bN aQ x.1 (cE a p i c)<;>simp
  ·unfold dr
   rw[List.filter_filter]
   refine List.filter_eq_nil_iff.2 fun y _=>?_
   intro h
   have h:=Bool.and_eq_true_iff.1 h
   have h1:=(Bool.and_eq_true_iff.1 h.1).1
   have q1:=(dw aQ y.1 (cE a p i c)).1 h1
   have q2:=(dw aQ y.1 (cE a p i x)).1 h.2
   exact hne (np i0 i1 (by omega) (by omega) (q2.symm.trans q1))
 unfold fb iJ
 rw[e]
def Oa(w:aU)(d k:Int)(p:Pl):An:=eF w.1.1 (fun q=>fb w.2.1 q d k) p.1 p.2.1 p.2.2.1 d
theorem Ny{w:aU}{PS:Zd}{U:List Pl}{ix:List (Ky×List Fa)}(hw:WY w PS U (some ix))(hf:w.2.1.length≤1000)(h:∀key,aO aQ (.slice 64 aN) key ix=dr key w.2.1)(d k:Int):MY w PS U (some ix) d k (Oa w d k):=by
 have hB:=hB
 refine⟨hw,fun p hP=>?_⟩
 have hpl:(cX w.1.1 (some ix) p).length≤aF:=by
  obtain⟨L,e,hL,_⟩:=jy hw p d k true none () [] [] []
  rw[ld hw p d k true none () [] [] []] at e
  have e:=fK e
  simp only[iX,true_and,mT] at e
  rw[e]
  omega
 rw[mI (w.1,(cX w.1.1 (some ix) p,())) hw.sw.nb hw.sw.rules hw.fl hpl,lP w.1.1 w.2.1 ix h]
 unfold Oa
 rw[iZ (d':=d) Iff.rfl (V:=fun q=>fb w.2.1 q d k) (V':=fun q=>fb (fI w.1.1 w.2.1 p) q d k) fun r hr=>?_,mi]
 obtain⟨⟨c,hc,rfl⟩,h1,h2,_⟩:=mh hr
 obtain⟨b,eb,hb⟩:=dL w.1.1 hw.sw.rules p.1
 have h1:b=true:=by unfold kC at h1;rw[eb] at h1;exact h1
 obtain⟨a0,a1,_⟩:=hb h1
 obtain⟨i0,i1⟩:=(lf _ _).2 h2
 exact nr w.1.1 w.2.1 (p:=p.2.1) a0 a1 (hw.fl _ a0 a1) i0 i1 hc d k
theorem Wz{w:aU}{lo PS:Zd}{U:List Pl}{ix:List (Ky×List Fa)}(hw:WX w lo PS U (some ix))(hf:w.2.1.length≤1000)(h:∀key,aO aQ (.slice 64 aN) key ix=dr key w.2.1)(m:DM)(d k:Int):MX w lo PS U (some ix) m d k (Oa w d k) (LQ w.1.1 m lo):=⟨hw,Ny hw.y hf h d k,lz hw.cg.rk.pre m⟩
variable{w:aU} {lo PS:Zd} {U:List Pl} {ix:Ix} {m:DM} {d k:Int} {O:Pl→An} {L:Pl→Qy Rs}
def fk(b:Bool)(m:DM)(a p d:Int):Bool:=b&&(aO (.int .i64) .bool a (bC m)&&(decide ((0:Int)≤p)&&(decide (p<(4096:Int))&&(decide ((0:Int)≤d)&&decide (d<(1024:Int))))))
theorem jE(a p:Int)(w:aU)(ix:Ix)(d k:Int)(b:Bool)(m:DM)(z:Unit)(fo:FM)(se:SM)(rs:List Rd):
 jF a p w ix d k b m z fo se rs=some (fk b m a p d,w,ix,d,k,b,m,z,fo,se,rs):=by
 unfold jF fk
 cases b<;>cases aO (.int .i64) .bool a (bC m)<;>cases decide ((0:Int)≤p)<;>cases decide (p<(4096:Int))<;>cases decide ((0:Int)≤d)<;>cases decide (d<(1024:Int))<;>rfl
def mz(b:Bool)(m:DM)(a p d i:Int):Bool:= !aO (.int .i64) .bool a (bC m)||(decide (i=0)&&fk b m a p d)
def Ri(O:Pl→An)(L:Pl→Qy Rs)(b:Bool)(m:DM)(a p d i:Int):List Rd:=if mz b m a p d i=true then((L (a,(p,(i,())))).run O).2 else[]
def Fv(O:Pl→An)(L:Pl→Qy Rs)(b:Bool)(m:DM)(a p d i:Int):Bool×In:=if mz b m a p d i=true then(((L (a,(p,(i,())))).run O).1.2.2.2.1,((L (a,(p,(i,())))).run O).1.1) else(false,zI)
theorem Ih(a p i:Int)(b:Bool)(z:Unit){fo:FM}{se:SM}{rs:List Rd}(h:MI w.1.1 PS U O L fo se rs)
 (hk:mz b m a p d i=true→W (da (a,(p,(i,()))) w ix d k b m z fo se rs) (LP w PS U ix m d k O L b z (a,(p,(i,()))) rs)):
 W (kf a p i w ix d k b m z fo se rs) fun r=>∃fo' se',r=((Fv O L b m a p d i).1,w,ix,d,k,b,m,z,fo',se',(Fv O L b m a p d i).2,bB rs (Ri O L b m a p d i))∧MI w.1.1 PS U O L fo' se' (bB rs (Ri O L b m a p d i))∧((Fv O L b m a p d i).1=true→FV w.1.1 PS (Fv O L b m a p d i).2 a):=by
 unfold kf Ri Fv
 have go:mz b m a p d i=true→W (Option.bind (da (a,(p,(i,()))) w ix d k b m z fo se rs) fun⟨z,aa,ab,ac,ad,ae,af,ag,ah,y,ai⟩=>some (y.2.2.2.1,z,aa,ab,ac,ad,ae,af,ag,ah,y.1,ai)) fun r=>∃fo' se',r=(((L (a,(p,(i,())))).run O).1.2.2.2.1,w,ix,d,k,b,m,z,fo',se',((L (a,(p,(i,())))).run O).1.1,bB rs ((L (a,(p,(i,())))).run O).2)∧MI w.1.1 PS U O L fo' se' (bB rs ((L (a,(p,(i,())))).run O).2)∧(((L (a,(p,(i,())))).run O).1.2.2.2.1=true→FV w.1.1 PS ((L (a,(p,(i,())))).run O).1.1 a):=fun hl=>by
  refine nG.2 ((hk hl).mono fun r hr=>?_)
  obtain⟨fo',se',rfl,h',hx,_⟩:=hr
  exact⟨_,rfl,fo',se',rfl,h',hx⟩
 cases hm:aO (.int .i64) .bool a (bC m) with
 |
  false=>
  have hl:mz b m a p d i=true:=by unfold mz;rw[hm];rfl
  rw[aB (by decide),aC,aA hl,aA hl]
  exact go hl
 |
  true=>
  rw[aA rfl]
  by_cases hi:i=0
  ·rw[aB (show¬(!decide (i=(0:Int)))=true by simp[hi]),jE,aD]
   dsimp only
   have hl:mz b m a p d i=fk b m a p d:=by unfold mz;rw[hm,bQ hi];rfl
   rw[hl] at go ⊢
   cases hb:fk b m a p d with
   |
    false=>
    rw[aA (show(!false)=true from rfl),aB (by decide),aB (by decide)]
    exact⟨_,rfl,fo,se,rfl,h,fun h=>(by cases h)⟩
   |
    true=>
    rw[aB (show¬(!true)=true by decide),aC,aA rfl,aA rfl]
    exact go hb
  ·have hl:mz b m a p d i=false:=by unfold mz;rw[hm,cD hi];rfl
   rw[aA (show(!decide (i=(0:Int)))=true by simp[hi]),hl,aB (by decide),aB (by decide)]
   exact⟨_,rfl,fo,se,rfl,h,fun h=>(by cases h)⟩
def Uu(w:aU)(p a:Int):List Pl:=((List.range 4).map fun(j:Nat)=>(a,(p,((j:Int),()))))++Uo w p (a,(p,((0:Int),())))
theorem jb{w:aU}(p a:Int)(hT:FT w.1.1)(hf:w.2.1.length≤60):(Uu w p a).length≤2200:=by
 have:=ng p (a,(p,((0:Int),()))) hT hf
 unfold Uu
 rw[cz,gm,nU]
 omega
theorem WA{w:aU}{lo:Zd}(hc:CG w.1.1 lo)(hT:FT w.1.1)(hf:w.2.1.length≤60)(p a:Int){ix:Ix}(hix:IX (jz w p) ix):WX w lo (jz w p) (Uu w p a) ix:=
 {Nx hc hT hf p (a,(p,((0:Int),()))) hix with
  pl:=fun b q i h0 h1 h2 h3 h4=>iR _ ((Nx hc hT hf p (a,(p,((0:Int),()))) hix).pl b q i h0 h1 h2 h3 h4)
  len:=cS (jb p a hT hf) (by decide)}
theorem Nz{w:aU}(hs:SA w.1.1)(hT:FT w.1.1)(hf:w.2.1.length≤60)(p a:Int){ix:Ix}(hix:IX (jz w p) ix):WY w (jz w p) (Uu w p a) ix:=
 ⟨hs.sw,cS (jb p a hT hf) (by decide),fun a a0 a1=>cS (hT.fields _ (bA (t:=aR) (l:=w.1.1.2.2.1) a0 a1)) (by decide),hix⟩
theorem NA{w:aU}(hf:w.2.1.length≤60)(p:Int){ix:List (Ky×List Fa)}(h:∀key,aO aQ (.slice 64 aN) key ix=dr key w.2.1):IX (jz w p) (some ix):=fun key=>by
 have e:aO aQ (.slice 64 aN) key (bC (some ix))=dr key w.2.1:=h key
 have hle:(dr key w.2.1).length≤w.2.1.length:=nS ..
 rw[e]
 exact⟨by omega,fun f hf=>dF _ (dF _ (iA _ (List.mem_map.2 ⟨f,(List.mem_filter.1 hf).1,rfl⟩)))⟩
abbrev dM(w:aU):DM:=some (gP w.1.1.2.2.2.1)
def LL(w:aU)(lo:Zd)(r:Int):Pl→Qy Rs:=if r=0 then LQ w.1.1 (dM w) lo else dt w.1.1 (dM w) fun _=>.ret zR
theorem iI{w:aU}(hs:SA w.1.1)(hT:FT w.1.1)(hf:w.2.1.length≤60){lo:Zd}{r:Int}(hcg:r=0→CG w.1.1 lo)(a0 a p:Int){ix:List (Ky×List Fa)}(h:∀key,aO aQ (.slice 64 aN) key ix=dr key w.2.1)(d k:Int)(z:Unit){i:Int}(hU:(a,(p,(i,())))∈Uu w p a0)(hl:mz (decide (r=0)) (dM w) a p d i=true)(fo:FM)(se:SM)(rs:List Rd)(hI:MI w.1.1 (jz w p) (Uu w p a0) (Oa w d k) (LL w lo r) fo se rs):
 W (da (a,(p,(i,()))) w (some ix) d k (decide (r=0)) (dM w) z fo se rs) (LP w (jz w p) (Uu w p a0) (some ix) (dM w) d k (Oa w d k) (LL w lo r) (decide (r=0)) z (a,(p,(i,()))) rs):=by
 have hP:p∈jz w p:=dF _ (dx ..)
 have hix:=NA hf p h
 have Y:=Ny (Nz hs hT hf p a0 hix) (by omega) h d k
 refine nn Y _ z _ hI hU hP ?_
 by_cases hm:aO (.int .i64) .bool a (bC (dM w))=true
 ·have hr:r=0:=by
   refine Classical.byContradiction fun hr=>?_
   unfold mz fk at hl
   rw[hm,cD hr] at hl
   simp at hl
  have X:=Wz (WA (hcg hr) hT hf p a0 hix) (by omega) h (dM w) d k
  have e:LL w lo r=LQ w.1.1 (dM w) lo:=aA hr
  rw[e] at hI ⊢
  exact nj X _ z _ hI hU hP
 ·refine nk Y _ z _ ?_ hm hI hU hP
  unfold LL
  by_cases hr:r=0
  ·rw[aA hr];exact lz (hcg hr).rk.pre _ _
  ·rw[aB hr]
   unfold dt
   rw[aB hm,aB hm]
variable{w:aU} {lo PS:Zd} {U:List Pl} {ix:Ix} {m:DM} {d k:Int} {O:Pl→An} {L:Pl→Qy Rs}
def uV(L:Pl→Qy Rs)(b:Bool)(m:DM)(a p d i:Int):Qy (Bool×In):=if mz b m a p d i=true then(L (a,(p,(i,())))).bind fun r=>.ret (r.2.2.2.1,r.1) else .ret (false,zI)
theorem qe{α:Type}(a:α):(Qy.ret a).run O=(a,[]):=rfl
theorem wD(b:Bool)(a p i:Int):(uV L b m a p d i).run O=(Fv O L b m a p d i,Ri O L b m a p d i):=by
 unfold uV Fv Ri
 by_cases h:mz b m a p d i=true
 ·rw[aA h,aA h,aA h,Qy.run_bind]
  rw[qe,cW]
 ·rw[aB h,aB h,aB h];rfl
def qf(L:Pl→Qy Rs)(b:Bool)(m:DM)(a p d:Int):Nat→Nat→Qy (List In)
 |0,_=>.ret []
 |n+1,c=>(uV L b m a p d (c:Int)).bind fun y=>(qf L b m a p d n (c+1)).bind fun l=>.ret (if y.1=true then y.2::l else l)
def wE(L:Pl→Qy Rs)(b:Bool)(m:DM)(p d:Int):Nat→Nat→Qy (List In)
 |0,_=>.ret []
 |n+1,a=>(qf L b m (a:Int) p d (bT m (a:Int)) 0).bind fun l1=>(wE L b m p d n (a+1)).bind fun l2=>.ret (l1++l2)
theorem zN(b:Bool)(a p:Int)(n c:Nat):(qf L b m a p d (n+1) c).run O=((if(Fv O L b m a p d (c:Int)).1=true then(Fv O L b m a p d (c:Int)).2::((qf L b m a p d n (c+1)).run O).1 else((qf L b m a p d n (c+1)).run O).1),Ri O L b m a p d (c:Int)++((qf L b m a p d n (c+1)).run O).2):=by
 show((uV L b m a p d (c:Int)).bind _).run O=_
 rw[Qy.run_bind,wD,Qy.run_bind]
 dsimp only
 rw[qe,cW]
theorem zO(b:Bool)(p:Int)(n a:Nat):(wE L b m p d (n+1) a).run O=(((qf L b m (a:Int) p d (bT m (a:Int)) 0).run O).1++((wE L b m p d n (a+1)).run O).1,((qf L b m (a:Int) p d (bT m (a:Int)) 0).run O).2++((wE L b m p d n (a+1)).run O).2):=by
 show((qf L b m (a:Int) p d (bT m (a:Int)) 0).bind _).run O=_
 rw[Qy.run_bind,Qy.run_bind]
 dsimp only
 rw[qe,cW]
theorem Df(hw:WY w PS U ix)(a p:Int)(a0:0≤a)(a1:a<(w.1.1.2.2.1.length:Int))(N:Int)(n:Nat)(hn:n≤4)(b:Bool)(z:Unit)
 (hk:∀i:Int,0≤i→i<4→mz b m a p d i=true→∀fo se rs,MI w.1.1 PS U O L fo se rs→W (da (a,(p,(i,()))) w ix d k b m z fo se rs) (LP w PS U ix m d k O L b z (a,(p,(i,()))) rs)) {fo:FM} {se:SM} {rs:List Rd} (h:MI w.1.1 PS U O L fo se rs) (l:List In) (hl:l.length≤1000) (hv:∀x∈l,x.2.2.2.1.length≤1000):
 W (fC (Int.toNat (n:Int)+1) (p,a,N,a,(n:Int),(0:Int),w,ix,d,k,b,m,z,fo,se,l,rs)) (CT (fun r=>∃fo' se',r=(p,N,a,w,ix,d,k,b,m,z,fo',se',l++((qf L b m a p d n 0).run O).1,bB rs ((qf L b m a p d n 0).run O).2)∧MI w.1.1 PS U O L fo' se' (bB rs ((qf L b m a p d n 0).run O).2)∧(l++((qf L b m a p d n 0).run O).1).length≤l.length+4∧∀x∈l++((qf L b m a p d n 0).run O).1,x.2.2.2.1.length≤1000) fun _=>False):=by
 have hB:=hB
 let Y:Nat→List In×List Rd:=fun c=>(qf L b m a p d (n -c) c).run O
 refine W.mono (ir (L:=fC) rfl (fun c(s:FM×SM×List In×List Rd)(r:dR _ _)=>CT (fun r=>∃fo' se',r=(p,N,a,w,ix,d,k,b,m,z,fo',se',s.2.2.1++(Y c).1,bB s.2.2.2 (Y c).2)∧MI w.1.1 PS U O L fo' se' (bB s.2.2.2 (Y c).2)∧(s.2.2.1++(Y c).1).length≤s.2.2.1.length+(4 -c)∧∀x∈s.2.2.1++(Y c).1,x.2.2.2.1.length≤1000) (fun _=>False) r) n (fun c(s:FM×SM×List In×List Rd)=>(p,a,N,a,(n:Int),(c:Int),w,ix,d,k,b,m,z,s.1,s.2.1,s.2.2.1,s.2.2.2)) (fun c s=>MI w.1.1 PS U O L s.1 s.2.1 s.2.2.2∧s.2.2.1.length≤1000+c∧∀x∈s.2.2.1,x.2.2.2.1.length≤1000) ?step ?stop _ 0 (fo,se,l,rs) (by omega) (by omega) ⟨h,by omega,hv⟩) fun r hr=> ?fin
 case fin=>exact hr
 case step=>
  rintro rec c ⟨fo,se,l,rs⟩ hc ⟨hI,hl,hv⟩ kk
  dsimp only at hI hl hv ⊢
  have hw2:=fM c (by omega)
  have eY:Y c=((if(Fv O L b m a p d (c:Int)).1=true then(Fv O L b m a p d (c:Int)).2::(Y (c+1)).1 else(Y (c+1)).1),Ri O L b m a p d (c:Int)++(Y (c+1)).2):=by
   show(qf _ _ _ _ _ _ _ _).run O=_
   rw[show n -c=(n -(c+1))+1 by omega,zN]
  rw[bZ (by omega),eY]
  refine nG.2 ((Ih a p (c:Int) b z hI fun hl=>hk _ (cw c) (by omega) hl fo se rs hI).mono fun r hr=>?_)
  obtain⟨fo',se',rfl,h',hx⟩:=hr
  dsimp only
  rw[cq,hw2]
  generalize Fv O L b m a p d (c:Int)=y at hx ⊢
  obtain⟨y,x⟩:=y
  dsimp only at hx ⊢
  cases y with
  |
   true=>
   have hxl:x.2.2.2.1.length≤1000:=by rw[(hx rfl).1];exact hw.fl a a0 a1
   rw[aA rfl,aA (show(l.length+List.length [x])*48≤aF by rw[bF];omega),aA rfl]
   refine(kk (fo',se',l++[x],bB rs (Ri O L b m a p d (c:Int))) ⟨h',by rw[cz,bF];omega,fun y hy=>?_⟩).ct (fun r hr=>?_) fun r hr=>hr
   ·rcases List.mem_append.1 hy with hy|hy
    ·exact hv y hy
    ·rw[List.mem_singleton.1 hy];exact hxl
   ·obtain⟨fo2,se2,rfl,g1,g2,g3⟩:=hr
    dsimp only at g1 g2 g3 ⊢
    have e:l++[x]++(Y (c+1)).1=l++x::(Y (c+1)).1:=by rw[jr];rfl
    rw[e] at g2 g3 ⊢
    simp only[cz,db,fZ] at g2 ⊢
    exact⟨fo2,se2,rfl,g1,by omega,g3⟩
  |
   false=>
   rw[aB (by decide),aB (by decide)]
   refine(kk (fo',se',l,bB rs (Ri O L b m a p d (c:Int))) ⟨h',by dsimp only;omega,hv⟩).ct (fun r hr=>?_) fun r hr=>hr
   obtain⟨fo2,se2,rfl,g1,g2,g3⟩:=hr
   dsimp only at g1 g2 g3 ⊢
   exact⟨fo2,se2,rfl,g1,by omega,g3⟩
 case stop=>
  rintro rec ⟨fo,se,l,rs⟩ ⟨hI,hl,hv⟩
  dsimp only at hI hl hv ⊢
  rw[eG (by omega)]
  have e:Y n=([],[]):=by
   show(qf _ _ _ _ _ _ (n -n) _).run O=_
   rw[Nat.sub_self];rfl
  rw[e]
  refine⟨_,rfl,fo,se,by rw[cW];rfl,hI,by rw[cW];omega,by rw[cW];exact hv⟩
theorem Fq(hw:WY w PS U ix)(hn:w.1.1.2.2.1.length≤6)(p:Int)(b:Bool)(z:Unit)
 (hk:∀a i:Int,0≤a→a<(w.1.1.2.2.1.length:Int)→0≤i→i<4→mz b m a p d i=true→∀fo se rs,MI w.1.1 PS U O L fo se rs→W (da (a,(p,(i,()))) w ix d k b m z fo se rs) (LP w PS U ix m d k O L b z (a,(p,(i,()))) rs)):
 W (kg p w ix d k b m z [] [] []) fun r=>∃fo' se',r=(((wE L b m p d w.1.1.2.2.1.length 0).run O).1,w,ix,d,k,b,m,z,fo',se',bB [] ((wE L b m p d w.1.1.2.2.1.length 0).run O).2)∧MI w.1.1 PS U O L fo' se' (bB [] ((wE L b m p d w.1.1.2.2.1.length 0).run O).2)∧((wE L b m p d w.1.1.2.2.1.length 0).run O).1.length≤24∧∀x∈((wE L b m p d w.1.1.2.2.1.length 0).run O).1,x.2.2.2.1.length≤1000:=by
 have hB:=hB
 let Y:Nat→List In×List Rd:=fun c=>(wE L b m p d (w.1.1.2.2.1.length -c) c).run O
 unfold kg
 refine aY.2 ((W.mono (ir (L:=jG) rfl (fun c(s:FM×SM×List In×List Rd)(r:dR _ _)=>CT (fun r=>∃fo' se',r=(w,ix,d,k,b,m,z,fo',se',s.2.2.1++(Y c).1,bB s.2.2.2 (Y c).2)∧MI w.1.1 PS U O L fo' se' (bB s.2.2.2 (Y c).2)∧(s.2.2.1++(Y c).1).length≤s.2.2.1.length+4*(6 -c)∧∀x∈s.2.2.1++(Y c).1,x.2.2.2.1.length≤1000) (fun _=>False) r) w.1.1.2.2.1.length (fun c(s:FM×SM×List In×List Rd)=>(p,(w.1.1.2.2.1.length:Int),(c:Int),w,ix,d,k,b,m,z,s.1,s.2.1,s.2.2.1,s.2.2.2)) (fun c s=>MI w.1.1 PS U O L s.1 s.2.1 s.2.2.2∧s.2.2.1.length≤4*c∧∀x∈s.2.2.1,x.2.2.2.1.length≤1000) ?step ?stop _ 0 ([],[],[],[]) (by omega) (by omega) ⟨MI.nil _ _ _ _ _,cT _,fun x hx=>(by cases hx)⟩) fun r hr=>hr).ct (fun r hr=>?_) fun r hr=>hr.elim)
 case step=>
  rintro rec c ⟨fo,se,l,rs⟩ hc ⟨hI,hl,hv⟩ kk
  dsimp only at hI hl hv ⊢
  have hw2:=fM c (by omega)
  have eY:Y c=(((qf L b m (c:Int) p d (bT m (c:Int)) 0).run O).1++(Y (c+1)).1,((qf L b m (c:Int) p d (bT m (c:Int)) 0).run O).2++(Y (c+1)).2):=by
   show(wE _ _ _ _ _ _ _).run O=_
   rw[show w.1.1.2.2.1.length -c=(w.1.1.2.2.1.length -(c+1))+1 by omega,zO]
  have hn4:bT m (c:Int)≤4:=by unfold bT;split<;>omega
  have hit:=Df (L:=L) (O:=O) (m:=m) (d:=d) (k:=k) hw (c:Int) p (cw c) (by omega) (w.1.1.2.2.1.length:Int) (bT m (c:Int)) hn4 b z (fun i h0 h1=>hk (c:Int) i (cw c) (by omega) h0 h1) hI l (by omega) hv
  rw[bZ (by omega),eY]
  refine aY.2 ?_
  have e:aI (U:=Int×Int×Int×Int×Int×aU×Ix×Int×Int×Bool×DM×Unit×FM×SM×List In×List Rd) (if(aO (.int .i64) .bool (c:Int) (bC m))=true then(some (.aX (p,(c:Int),(1:Int),(w.1.1.2.2.1.length:Int),(c:Int),w,ix,d,k,b,m,z,fo,se,l,rs))) else(some (.aX (p,(c:Int),(4:Int),(w.1.1.2.2.1.length:Int),(c:Int),w,ix,d,k,b,m,z,fo,se,l,rs)))) (fun⟨b,c,a,d,e,f,g,h,i,j,k,l,m,n,o,p⟩=>fC (Int.toNat a+1) (b,c,d,e,a,(0:Int),f,g,h,i,j,k,l,m,n,o,p))=fC (Int.toNat ((bT m (c:Int):Nat):Int)+1) (p,(c:Int),(w.1.1.2.2.1.length:Int),(c:Int),((bT m (c:Int):Nat):Int),(0:Int),w,ix,d,k,b,m,z,fo,se,l,rs):=by
   unfold bT
   by_cases hm:aO (.int .i64) .bool (c:Int) (bC m)=true
   ·rw[aA hm,aA hm,aC];rfl
   ·rw[aB hm,aB hm,aC];rfl
  rw[e]
  refine hit.ct (fun r hr=>?_) fun r hr=>hr.elim
  obtain⟨fo',se',rfl,h',g1,g2⟩:=hr
  dsimp only
  rw[hw2]
  refine(kk (fo',se',_,_) ⟨h',by dsimp only;omega,g2⟩).ct (fun r hr=>?_) fun r hr=>hr
  obtain⟨fo2,se2,rfl,q1,q2,q3⟩:=hr
  dsimp only at q1 q2 q3 ⊢
  rw[jr] at q2 q3 ⊢
  rw[cq]
  exact⟨fo2,se2,rfl,q1,by omega,q3⟩
 case stop=>
  rintro rec ⟨fo,se,l,rs⟩ ⟨hI,hl,hv⟩
  dsimp only at hI hl hv ⊢
  rw[eG (by omega)]
  have e:Y w.1.1.2.2.1.length=([],[]):=by
   show(wE _ _ _ _ _ (w.1.1.2.2.1.length -w.1.1.2.2.1.length) _).run O=_
   rw[Nat.sub_self];rfl
  rw[e]
  refine⟨_,rfl,fo,se,by rw[cW];rfl,hI,by rw[cW];omega,by rw[cW];exact hv⟩
 ·obtain⟨fo',se',rfl,h',g1,g2⟩:=hr
  exact⟨_,rfl,fo',se',rfl,h',g1,g2⟩
def AQ(w:aU)(lo:Zd)(r p d:Int):Qy (List In):=wE (LL w lo r) (decide (r=0)) (dM w) p d w.1.1.2.2.1.length 0
theorem zP{w:aU}(hs:SA w.1.1)(hT:FT w.1.1)(hf:w.2.1.length≤60){lo:Zd}{r:Int}(er:vG w.1=some r)(hcg:r=0→CG w.1.1 lo)(p d k:Int):
 sW w p d k=some (((AQ w lo r p d).run (Oa w d k)).1,bB [] ((AQ w lo r p d).run (Oa w d k)).2)∧((AQ w lo r p d).run (Oa w d k)).1.length≤24∧(∀x∈((AQ w lo r p d).run (Oa w d k)).1,x.2.2.2.1.length≤1000)∧(bB [] ((AQ w lo r p d).run (Oa w d k)).2).length≤2200000:=by
 obtain⟨ix,e1,h1⟩:=lM w (by omega) hs.sw.rules d k (decide (r=(0:Int)))
 unfold sW
 rw[er,aD,e1,aD]
 dsimp only
 have hix:=NA hf p h1
 obtain⟨x,ex,fo,se,rfl,hI,g1,g2⟩:=Fq (L:=LL w lo r) (O:=Oa w d k) (k:=k) (d:=d) (m:=dM w) (Nz hs hT hf p 0 hix) hT.dh p (decide (r=0)) () fun a i a0 a1 i0 i1 hl fo se rs hI=>iI hs hT hf hcg 0 a p h1 d k () (iR _ (rK p _ a0 a1 (dF _ (dx ..)) i0 i1)) hl fo se rs hI
 have hU:=jb p 0 hT hf
 have hl:=hI.fi.len
 have hr:=hI.fi.rs
 unfold AQ
 rw[ex]
 exact⟨rfl,g1,g2,by omega⟩
theorem jZ(l:Zd)(hl:l.length≤1000000000):Bf l l=some true:=by
 have hB:=hB
 suffices hW:W (Bf l l) fun r=>r=true by
  obtain⟨r,e,rfl⟩:=hW
  exact e
 unfold Bf
 rw[aB (show¬(!decide ((l.length:Int)=(l.length:Int)))=true by simp)]
 refine aY.2 (W.ct (bU (L:=oi) rfl (CT (fun _=>True) fun r=>r=true) l.length (fun c(_:Unit)=>(l,l,(c:Int))) (fun _ _=>True) ?step ?stop dG 0 () (by show _<18446744073709551616;omega) (by omega) trivial) (fun d _=>⟨_,rfl,rfl⟩) fun r hr=>hr)
 case step=>
  intro rec c _ hc _ kk
  dsimp only
  have hw2:=fM c (by omega)
  have hcc:(c:Int)<(l.length:Int):=by omega
  rw[bZ hcc,dH c,aA hcc,dH c,aA hcc,aB (show¬(!decide (nth (.int .i64) l (c:Int)=nth (.int .i64) l (c:Int)))=true by simp),hw2]
  exact kk () trivial
 case stop=>
  intro rec _ _
  dsimp only
  rw[eG (by omega)]
  exact⟨_,rfl,trivial⟩
theorem R9(l:List Fa)(k:Int)(hl:l.length≤1000000):Z7 l k=some (l.filter fun f=>decide (f.2.2.2.1≤k)):=by
 have hB:=hB
 suffices hW:W (Z7 l k) fun r=>r=l.filter fun f=>decide (f.2.2.2.1≤k) by
  obtain⟨r,e,rfl⟩:=hW
  exact e
 unfold Z7
 refine aY.2 (W.ct (bU (L:=MN) rfl (CT (fun r=>r=l.filter fun f=>decide (f.2.2.2.1≤k)) fun _=>False) l.length (fun c(e:List Fa)=>(k,l,(l.length:Int),(c:Int),e)) (fun c e=>e.length≤c∧e=(l.take c).filter fun f=>decide (f.2.2.2.1≤k)) ?step ?stop _ 0 [] (by omega) (by omega) ⟨cT _,rfl⟩) (fun r hr=>⟨_,rfl,hr⟩) fun r hr=>hr.elim)
 case step=>
  rintro rec c e hc ⟨h1,h2⟩ kk
  dsimp only
  have hw2:=fM c (by omega)
  have hcc:(c:Int)<(l.length:Int):=by omega
  rw[bZ hcc,dH c,aA hcc,cH (t:=aN) hc]
  have ht:=gD l c hc
  by_cases hk:l[c].2.2.2.1≤k
  ·rw[bZ hk,aA (show(e.length+List.length [l[c]])*64≤aF by rw[bF];omega),hw2]
   refine kk _ ⟨by rw[cz,bF];omega,?_⟩
   rw[ht,List.filter_append,←h2,js,bZ hk]
   rfl
  ·rw[aB (fun h=>hk (bX h)),hw2]
   refine kk _ ⟨by omega,?_⟩
   rw[ht,List.filter_append,←h2,js,aB (fun h=>hk (bX h))]
   exact(cW _).symm
 case stop=>
  rintro rec e ⟨h1,h2⟩
  dsimp only
  rw[eG (by omega)]
  rw[List.take_length] at h2
  exact⟨_,rfl,h2⟩
theorem NC(l:List Fa)(q:Ky)(d k:Int):fb (l.filter fun f=>decide (f.2.2.2.1≤k)) q d k=fb l q d k:=by
 have e:(l.filter fun f=>decide (f.2.2.2.1≤k)).filter (cN q k)=l.filter (cN q k):=by
  rw[List.filter_filter]
  refine List.filter_congr fun x _=>?_
  unfold cN
  cases bN aQ x.1 q<;>simp
 unfold fb iJ
 rw[e]
theorem ND{w:aU}{l:List Fa}{u:Unit}{d k:Int}(h:∀q,fb l q d k=fb w.2.1 q d k):Oa (w.1,(l,u)) d k=Oa w d k:=by
 have e:(fun q=>fb l q d k)=fun q=>fb w.2.1 q d k:=funext h
 funext p
 unfold Oa
 dsimp only
 rw[e]
theorem eW(x:In)(h:x.2.2.2.1.length≤1000000000):oY x x=some true:=by
 unfold oY
 rw[bQ rfl,aA rfl,bQ rfl,aA rfl,bQ rfl,aA rfl,jZ _ h]
 rfl
theorem j4(l:List In)(hl:l.length≤1000000000)(hv:∀x∈l,x.2.2.2.1.length≤1000000000):Co l l=some true:=by
 have hB:=hB
 suffices hW:W (Co l l) fun r=>r=true by
  obtain⟨r,e,rfl⟩:=hW
  exact e
 unfold Co
 rw[aB (show¬(!decide ((l.length:Int)=(l.length:Int)))=true by simp)]
 refine aY.2 (W.ct (bU (L:=yM) rfl (CT (fun _=>True) fun r=>r=true) l.length (fun c(_:Unit)=>(l,l,(c:Int))) (fun _ _=>True) ?step ?stop dG 0 () (by show _<18446744073709551616;omega) (by omega) trivial) (fun d _=>⟨_,rfl,rfl⟩) fun r hr=>hr)
 case step=>
  intro rec c _ hc _ kk
  dsimp only
  have hw2:=fM c (by omega)
  have hcc:(c:Int)<(l.length:Int):=by omega
  rw[bZ hcc,dH c,aA hcc,dH c,aA hcc,eW _ (hv _ (bA (t:=bR) (l:=l) (cw c) hcc)),aD,aB (by decide),hw2]
  exact kk () trivial
 case stop=>
  intro rec _ _
  dsimp only
  rw[eG (by omega)]
  exact⟨_,rfl,trivial⟩
theorem i2(l:List Rd)(hl:l.length≤1000000000):Cp l l=some true:=by
 have hB:=hB
 suffices hW:W (Cp l l) fun r=>r=true by
  obtain⟨r,e,rfl⟩:=hW
  exact e
 unfold Cp
 rw[aB (show¬(!decide ((l.length:Int)=(l.length:Int)))=true by simp)]
 refine aY.2 (W.ct (bU (L:=yN) rfl (CT (fun _=>True) fun r=>r=true) l.length (fun c(_:Unit)=>(l,l,(c:Int))) (fun _ _=>True) ?step ?stop dG 0 () (by show _<18446744073709551616;omega) (by omega) trivial) (fun d _=>⟨_,rfl,rfl⟩) fun r hr=>hr)
 case step=>
  intro rec c _ hc _ kk
  dsimp only
  have hw2:=fM c (by omega)
  have hcc:(c:Int)<(l.length:Int):=by omega
  rw[bZ hcc,dH c,aA hcc,dH c,aA hcc,(dw bP _ _).2 rfl,aB (by decide),hw2]
  exact kk () trivial
 case stop=>
  intro rec _ _
  dsimp only
  rw[eG (by omega)]
  exact⟨_,rfl,trivial⟩
theorem zQ{s:bD}(h:wf eN s):SA s where
 ss:=
  {j9:=h.1.2.1
   kF:=h.2.1.2.1
   dh:=h.2.2.1.2.1
   rules:=h.2.2.2.1.2.1
   fQ:=h.2.2.2.2.1.2.1
   dV:=h.2.2.2.2.2.1.2.1
   fields:=fun x hx=>⟨(h.2.2.1.2.2 x hx).2.2.2.2.1.2.1,fun f hf=>((h.2.2.1.2.2 x hx).2.2.2.2.1.2.2 f hf).2.1.2.2.2.2.2.1.2.1⟩
   sC:=fun x hx=>⟨(h.2.2.1.2.2 x hx).2.2.2.2.2.1.2.1,fun d hd=>⟨((h.2.2.1.2.2 x hx).2.2.2.2.2.1.2.2 d hd).1.2.1,((h.2.2.1.2.2 x hx).2.2.2.2.2.1.2.2 d hd).2.2.1.2.1⟩⟩
   rl:=fun r hr=>⟨(h.2.2.2.1.2.2 r hr).2.2.1.2.1,(h.2.2.2.1.2.2 r hr).2.2.2.1.2.1,(h.2.2.2.1.2.2 r hr).2.2.2.2.1.2.1⟩
   mv:=fun c hc=>(h.2.2.2.2.1.2.2 c hc).2.2.2.2.1.2.1
   may:=fun p hp=>(h.2.2.2.2.2.1.2.2 p hp).2.1.2.1}
 bs:=
  {j9:=h.1.1
   kF:=h.2.1.1
   dh:=h.2.2.1.1
   rules:=h.2.2.2.1.1
   fQ:=h.2.2.2.2.1.1
   dV:=h.2.2.2.2.2.1.1
   CN:=fun x hx=>⟨(h.2.2.1.2.2 x hx).2.2.2.2.1.1,(h.2.2.1.2.2 x hx).2.2.2.2.2.1.1,fun d hd=>((h.2.2.1.2.2 x hx).2.2.2.2.2.1.2.2 d hd).1.1⟩
   rl:=fun r hr=>⟨(h.2.2.2.1.2.2 r hr).2.2.1.1,(h.2.2.2.1.2.2 r hr).2.2.2.1.1,(h.2.2.2.1.2.2 r hr).2.2.2.2.1.1⟩
   cv:=fun c hc=>(h.2.2.2.2.1.2.2 c hc).2.2.2.2.1.1
   pu:=fun p hp=>(h.2.2.2.2.2.1.2.2 p hp).2.1.1}
 sw:=
  {kF:=h.2.1.2.1
   dh:=h.2.2.1.2.1
   rules:=h.2.2.2.1.2.1
   dV:=h.2.2.2.2.2.1.2.1
   nb:=fun x hx=>⟨(h.2.2.1.2.2 x hx).2.2.2.2.1.2.1,fun f hf=>((h.2.2.1.2.2 x hx).2.2.2.2.1.2.2 f hf).2.1.2.2.2.2.2.1.2.1⟩
   rl:=fun r hr=>⟨(h.2.2.2.1.2.2 r hr).2.2.1.2.1,(h.2.2.2.1.2.2 r hr).2.2.2.1.2.1,(h.2.2.2.1.2.2 r hr).2.2.2.2.1.1⟩
   may:=fun p hp=>(h.2.2.2.2.2.1.2.2 p hp).2.1.2.1}
theorem nu{w:aU}(hs:SA w.1.1):∃r lo,vG w.1=some r∧(r=0→CG w.1.1 lo):=by
 obtain⟨r,er,hc⟩:=uB w.1 hs
 by_cases h:r=0
 ·obtain⟨lo,h2⟩:=hc h
  exact⟨r,lo,er,fun _=>h2⟩
 ·exact⟨r,[],er,fun h'=>absurd h' h⟩
theorem Ii(w:aU)(hs:SA w.1.1)(p d k:Int):f5 w p d k=some true:=by
 unfold f5
 rw[pO,aD,aB (by decide)]
 obtain⟨r,e,hr⟩:=pZ w hs.ss
 rw[e,aD]
 cases r with
 |false=>rfl
 |
  true=>
  obtain⟨hT,hf⟩:=hr rfl
  obtain⟨r0,lo,er,hcg⟩:=nu hs
  have hlf:(w.2.1.filter fun f=>decide (f.2.2.2.1≤k)).length≤w.2.1.length:=nS ..
  obtain⟨a1,a2,a3,a4⟩:=zP hs hT hf er hcg p d k
  obtain⟨b1,_⟩:=zP (w:=(w.1,(w.2.1.filter fun f=>decide (f.2.2.2.1≤k),w.2.2))) hs hT (by show(w.2.1.filter _).length≤60;omega) er hcg p d k
  have eO:Oa (w.1,(w.2.1.filter fun f=>decide (f.2.2.2.1≤k),w.2.2)) d k=Oa w d k:=ND fun q=>NC w.2.1 q d k
  have eA:AQ (w.1,(w.2.1.filter fun f=>decide (f.2.2.2.1≤k),w.2.2)) lo r0 p d=AQ w lo r0 p d:=rfl
  rw[eO,eA] at b1
  rw[aB (by decide),R9 w.2.1 k (by omega),aD,a1,aD]
  dsimp only
  rw[b1,aD]
  dsimp only
  rw[j4 _ (by omega) (fun x hx=>cS (a3 x hx) (by decide)),aD,aA rfl,i2 _ (by omega)]
  rfl
theorem pl5(a0:aU)(a1 a2 a3:Int)(af0:wf gA a0)(_af1:wf (.int .i64) a1)(_af2:wf (.int .i64) a2)(_af3:wf (.int .i64) a3):f5 a0 a1 a2 a3=some true:=
 Ii a0 (zQ af0.1.1) a1 a2 a3
end Go.Proofs.YtkhfnbfpgcjllaaGreatDoor
