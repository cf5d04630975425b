/- part -/
import Derived.Test.YtkhfnbfpgcjllaaGreatDoorP1
import Derived.Test.YtkhfnbfpgcjllaaGreatDoorUL
import Derived.Test.YtkhfnbfpgcjllaaGreatDoorA5
import Derived.Test.YtkhfnbfpgcjllaaGreatDoorFJ
import Derived.Test.YtkhfnbfpgcjllaaGreatDoorFM
import Derived.Test.YtkhfnbfpgcjllaaGreatDoorUf
import Derived.Test.YtkhfnbfpgcjllaaGreatDoorUg
import Derived.Test.YtkhfnbfpgcjllaaGreatDoorS4
noncomputable section
namespace Go.Proofs.YtkhfnbfpgcjllaaGreatDoor
open Go.Ax
theorem kB{t:jx}{n:Int}(h:GF t n=some true):t.2.2.2.2.1= -1:=by
 unfold GF at h
 obtain⟨v,hv,h⟩:=bind_some h
 cases h
 split at hv
 ·split at hv
  ·split at hv
   ·rename_i e;exact bY e
   ·cases hv
  ·cases hv
 ·cases hv
theorem kC{t:jx}{n:Int}(h:GD t n=some true):t.2.2.2.2.1= -1:=by
 unfold GD at h
 obtain⟨v,hv,h⟩:=bind_some h
 cases h
 split at hv
 ·split at hv
  ·split at hv
   ·rename_i e;exact bY e
   ·cases hv
  ·cases hv
 ·cases hv
theorem kD{t:jx}{n:Int}(h:GC t n=some true):t.2.2.2.2.1= -1:=by
 unfold GC at h
 obtain⟨v,hv,h⟩:=bind_some h
 cases h
 split at hv
 ·split at hv
  ·split at hv
   ·rename_i e;exact bY e
   ·cases hv
  ·cases hv
 ·cases hv
theorem ud{x:Zm}{b:Bool}(h:(Option.bind x fun y=>some y)=some b):x=some b:=by
 cases x with
 |none=>cases h
 |some a=>exact h
theorem iM{c:kU}{t:jx}(h:uB c t=some true):t.2.2.2.2.1<(c.1.2.1.length:Int):=by
 have neg:t.2.2.2.2.1= -1→t.2.2.2.2.1<(c.1.2.1.length:Int):=fun e=>by omega
 by_cases e1:t.1=1
 ·exact(mj h e1).2
 ·unfold uB at h
  by_cases h1:t.1<1
  ·rw[cq h1] at h;cases h
  ·by_cases h2:(4:Int)<t.1
   ·rw[aB (by simpa using h1),bR h2] at h;cases h
   ·rw[aB (by simpa using h1),cD h2,aD,aB (by decide),aC] at h
    dsimp only at h
    rw[aA (by omega),aA (by omega),aB (by omega),aB e1] at h
    by_cases e2:t.1=2
    ·rw[aA e2] at h;exact neg (kB (ud h))
    ·rw[aB e2] at h
     by_cases e3:t.1=3
     ·rw[aA e3] at h;exact neg (kC (ud h))
     ·rw[aB e3,aA (by omega)] at h;exact neg (kD (ud h))
theorem kE(c:kU)(hN:NB c.1)(r:np):∃b y,K7 c r=some (b,y)∧(b=true→y.2.2.2.2.1<(c.1.2.1.length:Int)):=by
 unfold K7
 rcases gG c r.2.2.1 r.2.2.2.1 with⟨hi,e⟩|⟨_,y,e⟩
 ·rw[e,aD]
  dsimp only
  rw[aB (by decide)]
  have hm:=hi.mem
  obtain⟨q,hq⟩:=lJ c (nth cS (aP c.1 r.2.2.1) r.2.2.2.1).2.1 ((hN _ hm.1).2 _ hm.2)
  rw[hq,aD]
  cases q with
  |false=>exact⟨false,_,rfl,fun h=>(by cases h)⟩
  |
   true=>
   rw[aB (by decide)]
   have hu:=iM hq
   by_cases h0:0≤(nth cS (aP c.1 r.2.2.1) r.2.2.2.1).2.1.2.2.2.2.1
   ·rw[cq h0,aA h0,aA hu]
    obtain⟨z,hz⟩:=lK c (nth bB c.1.2.1 (nth cS (aP c.1 r.2.2.1) r.2.2.2.1).2.1.2.2.2.2.1)
    rw[hz,aD]
    cases z with
    |false=>exact⟨false,_,rfl,fun h=>(by cases h)⟩
    |true=>exact⟨true,_,rfl,fun _=>hu⟩
   ·rw[aB (show¬decide ((0:Int)≤(nth cS (aP c.1 r.2.2.1) r.2.2.2.1).2.1.2.2.2.2.1)=true by simpa using h0)]
    exact⟨true,_,rfl,fun _=>hu⟩
 ·rw[e,aD]
  exact⟨false,_,rfl,fun h=>(by cases h)⟩
theorem lk(s:bF)(hN:NB s)(r:np)(n:Int):∃p,f32 s r n=some p:=by
 unfold f32
 obtain⟨b,y,e,hu⟩:=kE (s,()) hN r
 rw[e,aD]
 dsimp only
 cases b with
 |false=>exact⟨_,rfl⟩
 |
  true=>
  rw[aB (by decide)]
  by_cases h1:n<0
  ·rw[cq h1];exact⟨_,rfl⟩
  ·rw[aB (show¬decide (n<(0:Int))=true by simpa using h1)]
   by_cases h2:(1048576:Int)<n
   ·rw[bR h2];exact⟨_,rfl⟩
   ·rw[cD h2,aD,aB (by decide),aC]
    dsimp only
    by_cases h0:0≤y.2.2.2.2.1
    ·rw[cq h0,aA h0,aA (hu rfl)];exact⟨_,rfl⟩
    ·rw[aB (show¬decide ((0:Int)≤y.2.2.2.2.1)=true by simpa using h0)];exact⟨_,rfl⟩
theorem dO(a b c:Int):∃r,wc a b c=some r:=by
 unfold wc
 repeat' (first|exact⟨_,rfl⟩|split)
def FV(s:bF)(PS:Zd)(x:jB)(a:Int):Prop:=x.2.2.2.1.length=(aP s a).length∧∀v∈x.2.2.2.1,v∈PS
structure LI(s:bF)(PS:Zd)(u:eU)(l:Zo):Prop where
 len:l.length≤u.2.2.1.length
 ok:∀x:Int,0≤x→x<(l.length:Int)→FV s PS (nth bS l x) (nth bG u.2.2.1 x).2.2.1
theorem LI.nil(s:bF)(PS:Zd)(u:eU):LI s PS u []:=⟨cX _,fun x h0 h1=>by rw[fO] at h1;omega⟩
theorem LI.push{s:bF}{PS:Zd}{u:eU}{l:Zo}(h:LI s PS u l){x:jB}(hl:l.length<u.2.2.1.length)(hx:FV s PS x (nth bG u.2.2.1 (l.length:Int)).2.2.1):LI s PS u (l++[x]):=by
 refine⟨by rw[cz,bD];omega,fun j h0 h1=>?_⟩
 rw[cz,bD] at h1
 have e:j=(j.toNat:Int):=by omega
 by_cases hj:j<(l.length:Int)
 ·have h2:=h.ok j h0 hj
  rw[e,cJ (t:=bS) (by rw[cz];omega),ze (by omega)]
  rw[e,cJ (t:=bS) (by omega)] at h2
  exact h2
 ·have ej:j.toNat=l.length:=by omega
  have ej':j=(l.length:Int):=by omega
  rw[ej',cJ (t:=bS) (by rw[cz,bD];omega),uP (cV _)]
  simp only[Nat.sub_self,List.getElem_singleton]
  exact hx
abbrev cR(s:bF)(u:eU):iw:=((s,()),(u,()))
theorem gI{s:bF}{PS:Zd}{u:eU}{l:Zo}(hL:LI s PS u l){t:gQ}{n:Int}(hn:n≤(l.length:Int))(h:EI (cR s u) t n):
 0≤t.2.2.1∧t.2.2.1<(l.length:Int)∧0≤t.2.2.2.1∧t.2.2.2.1<((nth bS l t.2.2.1).2.2.2.1.length:Int)∧nth (.int .i64) (nth bS l t.2.2.1).2.2.2.1 t.2.2.2.1∈PS:=by
 have hv:t.2.2.1<(l.length:Int):=Int.lt_of_lt_of_le h.v1 hn
 obtain⟨h1,h2⟩:=hL.ok _ h.v0 hv
 have hb:=h.f.b1
 have hb:t.2.2.2.1<((nth bS l t.2.2.1).2.2.2.1.length:Int):=by rw[h1];exact hb
 exact⟨h.v0,hv,h.f.b0,hb,h2 _ (bE (t:=.int .i64) h.f.b0 hb)⟩
theorem qf{s:bF}{PS:Zd}{u:eU}{l:Zo}(hL:LI s PS u l)(hl:l.length=u.2.2.1.length){t:gQ}(ht:ml (cR s u) t):
 ∃v,sC t l=some v∧(v∈PS∨t.2.2.1= -1∧v=t.2.2.2.2.1):=by
 unfold sC
 by_cases h:t.2.2.1= -1
 ·rw[cq h];exact⟨_,rfl,Or.inr ⟨h,rfl⟩⟩
 ·rcases ht with hi|hi
  ·obtain⟨a1,a2,a3,a4,a5⟩:=gI hL (by rw[hl];exact fQ _) hi
   rw[aB (show¬decide (t.2.2.1=(-1:Int))=true by simpa using h),aA a1,aA a2,aA a3,aA a4]
   exact⟨_,rfl,Or.inl a5⟩
  ·exact absurd hi h
theorem jH(day:Int){L:Zh}:∀(l:Zh)(s:Nx),(∀f∈l,f∈L)→(s.2=true→s.1∈L)→((l.foldl (gj day) s).2=true→(l.foldl (gj day) s).1∈L)
 |[],s,_,hs=>hs
 |
  f::l,s,hl,hs=>by
  rw[List.foldl_cons]
  refine jH day l _ (fun x hx=>hl x (dH _ hx)) ?_
  unfold gj
  split
  ·exact fun _=>hl f (dx ..)
  ·exact hs
theorem qg{l:Zh}{k:hJ}{day known:Int}(h:(fk l k day known).2=true):∃f∈l,f.2.1=(fk l k day known).1:=by
 have hm:=jH day (L:=l) (l.filter (cL k known)) (zF,false) (fun x hx=>(List.mem_filter.1 hx).1) (fun h=>by cases h)
 have e:(l.filter (cL k known)).foldl (gj day) (zF,false)=iQ k day known l (zF,false):=rfl
 rw[e] at hm
 unfold fk at h ⊢
 dsimp only at h ⊢
 split at h
 ·rename_i hc
  rw[aA hc]
  exact⟨_,hm hc.1,rfl⟩
 ·cases h
theorem kF(l:Zh)(k:hJ)(day known:Int)(hl:l.length≤aF):∃v b,rX l k day known=some (v,b)∧(b=true→∃f∈l,f.2.1=v):=by
 unfold rX
 rw[aA hl]
 exact⟨_,_,rfl,qg⟩
theorem dP(s:bF)(hr:s.2.2.2.1.length≤aF)(a:Int):∃b,KR s a=some b∧(b=true→0≤a∧a<(s.2.2.1.length:Int)∧2≤(aP s a).length):=by
 have hB:=hB
 have no:∀y:Zm,y=some false→∃r,y=some r∧(r=true→0≤a∧a<(s.2.2.1.length:Int)∧2≤(aP s a).length):=fun y hy=>⟨false,hy,fun h=>(by cases h)⟩
 unfold KR
 by_cases h0:a<0
 ·rw[cq h0];exact no _ rfl
 ·rw[aB (show¬decide (a<(0:Int))=true by simpa using h0)]
  by_cases h1:(s.2.2.1.length:Int)≤a
  ·rw[cq h1];exact no _ rfl
  ·rw[aB (show¬decide ((s.2.2.1.length:Int)≤a)=true by simpa using h1),aA (Int.not_lt.1 h0),aA (Int.not_le.1 h1)]
   have e:(nth aU s.2.2.1 a).2.2.2.2.1=aP s a:=rfl
   rw[e]
   by_cases h2:((aP s a).length:Int)<2
   ·rw[bR h2];exact no _ rfl
   ·rw[cD h2,aD,aB (by decide),aC]
    dsimp only
    have yes:∀y:Zm,(∃z,y=some z)→∃z,y=some z∧(z=true→0≤a∧a<(s.2.2.1.length:Int)∧2≤(aP s a).length):=fun y ⟨z,hz⟩=>⟨z,hz,fun _=>⟨Int.not_lt.1 h0,Int.not_le.1 h1,by omega⟩⟩
    apply yes
    suffices hW:W (aG (U:=Int×Zr) (qG (Int.toNat (List.length s.2.2.2.1:Int)+1) (a,s.2.2.2.1,(List.length s.2.2.2.1:Int),(0:Int),([]:Zr))) (fun x=>some (!(aO (.int .i64) .bool x.1 x.2)))) (fun _=>True) by
     obtain⟨r,hr,_⟩:=hW
     exact⟨r,hr⟩
    refine aZ.2 (W.ct (bW (L:=qG) rfl (CT (fun _=>True) fun _=>True) s.2.2.2.1.length (fun c(d:Zr)=>(a,s.2.2.2.1,(s.2.2.2.1.length:Int),(c:Int),d)) (fun c d=>d.length≤c) ?step ?stop _ 0 [] (by omega) (by omega) (cV _)) (fun d h=>⟨_,rfl,trivial⟩) fun r h=>trivial)
    case step=>
     intro rec c d hc hd kk
     dsimp only
     have hw2:=fF c (by omega)
     rw[cq (by omega),dK c,aA (show(c:Int)<(s.2.2.2.1.length:Int) by omega),aA (show d.length+1≤aF by omega),hw2]
     exact kk _ (cW (dp (kt:=.int .i64)) (by omega))
    case stop=>
     intro rec d hd
     dsimp only
     rw[eF (by omega)]
     exact⟨_,rfl,trivial⟩
theorem kG{PS:Zd}(v:aV)(s:bF)(hN:NB s)(hl:v.2.1.length≤aF)(hPS:∀f∈v.2.1,f.2.1∈PS)(m a p i d k:Int)(rs:Zi)(hr:(rs.length+1)*40≤aF):
 ∃c b rs',jq m a p i d v k s rs=some (c,b,a,p,i,d,v,k,s,rs')∧rs'.length=rs.length+1∧(b=true→c∈PS):=by
 unfold jq Pb
 rw[aD,aA (by rw[bD];exact hr)]
 obtain⟨x,b,e,hb⟩:=kF v.2.1 (a,(p,(aQ ((aQ ((16:Int)*i))+m),()))) d k hl
 rw[e,aD]
 dsimp only
 cases b with
 |false=>exact⟨_,false,_,rfl,by rw[cz,bD],fun h=>(by cases h)⟩
 |
  true=>
  obtain⟨f,hf,rfl⟩:=hb rfl
  obtain⟨q,hq⟩:=jQ s hN a m f.2.1
  rw[aA rfl,hq]
  exact⟨_,q,_,rfl,by rw[cz,bD],fun _=>hPS f hf⟩
theorem nr{PS:Zd}(v:aV)(hN:NB v.1.1)(hR:v.1.1.2.2.2.1.length≤aF)(hF:∀a,0≤a→a<(v.1.1.2.2.1.length:Int)→(aP v.1.1 a).length≤1000)(hl:v.2.1.length≤aF)(hPS:∀f∈v.2.1,f.2.1∈PS)(a p i d k:Int)(hp:p∈PS):
 W (mU v a p i d k) fun r=>r.2.2.length≤1000∧(r.1=true→FV v.1.1 PS r.2.1 a):=by
 have hB:=hB
 unfold mU
 obtain⟨b,e,hb⟩:=dP v.1.1 hR a
 rw[e,aD]
 have no:∀(z:jB),(([]:Zi).length≤1000∧((false:Bool)=true→FV v.1.1 PS z a)):=fun z=>⟨cX _,fun h=>(by cases h)⟩
 cases b with
 |false=>exact⟨_,rfl,no _⟩
 |
  true=>
  obtain⟨a0,a1,a2⟩:=hb rfl
  rw[aB (by decide)]
  have hs:∃z,wa p i=some z:=by
   unfold wa
   refine gK ?_ fun v=>⟨v,rfl⟩
   repeat' (first|exact⟨_,rfl⟩|split)
  obtain⟨z,hz⟩:=hs
  rw[hz,aD]
  cases z with
  |false=>exact⟨_,rfl,no _⟩
  |
   true=>
   rw[aB (by decide)]
   by_cases d0:d<0
   ·rw[cq d0];exact⟨_,rfl,no _⟩
   ·rw[aB (show¬decide (d<(0:Int))=true by simpa using d0)]
    by_cases d1:(1024:Int)≤d
    ·rw[bR d1];exact⟨_,rfl,no _⟩
    ·rw[cD d1,aD,aB (by decide),aC]
     dsimp only
     have hFa:=hF a a0 a1
     have e:(nth aU v.1.1.2.2.1 a).2.2.2.2.1=aP v.1.1 a:=rfl
     refine aZ.2 (W.ct (bW (L:=pK) rfl (CT (fun r=>∃t s,r=(a,p,i,(0:Int),(0:Int),(0:Int),t,s)∧s.length≤1000∧t.length=(aP v.1.1 a).length∧∀x∈t,x∈PS) fun r=>r.1=false∧r.2.2.length≤1000) (aP v.1.1 a).length (fun c(u:Zd×Zi)=>((c:Int),v,a,p,i,d,k,(0:Int),(0:Int),(0:Int),v.1.1,u.1,u.2)) (fun c u=>u.1.length=c∧u.2.length≤c∧∀x∈u.1,x∈PS) ?step ?stop dA 1 ([p],[]) (by show _<18446744073709551616;omega) (by omega) ⟨rfl,cX _,fun x hx=>(by rw[List.mem_singleton.1 hx];exact hp)⟩) (fun r h=>?_) fun r h=>?_)
     case step=>
      rintro rec c ⟨t,s⟩ hc ⟨ht,hs,hP⟩ kk
      dsimp only at ht hs hP ⊢
      have hw2:=fF c (by omega)
      rw[e,aA a0,aA a1,cq (by omega)]
      obtain⟨x,b,s',e2,hs',hx⟩:=kG v v.1.1 hN hl hPS (c:Int) a p i d k s (by omega)
      rw[e2,aD]
      dsimp only
      cases b with
      |false=>exact⟨_,rfl,rfl,by show s'.length≤1000;omega⟩
      |
       true=>
       rw[aB (by decide),aA (show(t.length+List.length [x])*8≤aF by rw[bD];omega),hw2]
       refine kk (t++[x],s') ⟨by rw[cz,bD,ht],by show s'.length≤c+1;omega,fun y hy=>?_⟩
       rcases List.mem_append.1 hy with h|h
       ·exact hP y h
       ·rw[List.mem_singleton.1 h];exact hx rfl
     case stop=>
      rintro rec ⟨t,s⟩ ⟨ht,hs,hP⟩
      dsimp only at ht hs hP ⊢
      rw[e,aA a0,aA a1,eF (by omega)]
      exact⟨_,rfl,t,s,rfl,by omega,ht,hP⟩
     ·obtain⟨t,s,rfl,h1,h2,h3⟩:=h
      exact⟨_,rfl,h1,fun _=>⟨h2,h3⟩⟩
     ·exact⟨h.2,fun h'=>by rw[h.1] at h';cases h'⟩
theorem fK:∀(rs:Zi)(se:Zj)(acc:Zi),se.length+rs.length≤aF→(acc.length+rs.length)*40≤aF→∃s' a',eT rs se acc=some (s',a')∧s'.length≤se.length+rs.length∧a'.length≤acc.length+rs.length
 |[],se,acc,_,_=>⟨se,acc,rfl,cV _,cV _⟩
 |
  r::rs,se,acc,h1,h2=>by
  rw[da] at h1 h2 ⊢
  unfold eT
  split
  ·obtain⟨s',a',e,q1,q2⟩:=fK rs se acc (by omega) (by omega)
   exact⟨s',a',e,by omega,by omega⟩
  ·have hm:(bK bN r true se).length≤se.length+1:=dp
   rw[aA (by omega),aA (by omega)]
   obtain⟨s',a',e,q1,q2⟩:=fK rs (bK bN r true se) (acc++[r]) (by omega) (by rw[cz,bD];omega)
   rw[cz,bD] at q2
   exact⟨s',a',e,by omega,by omega⟩
abbrev Pl:=hJ
abbrev FM:=Zk
abbrev SM:=Zj
abbrev DM:=Ze
def IX(PS:Zd)(ix:Ix):Prop:=∀key,(aO aR (.slice 64 aN) key (bA ix)).length≤1000000∧∀f∈aO aR (.slice 64 aN) key (bA ix),f.2.1∈PS
structure WX(w:aV)(lo:Zd)(PS:Zd)(U:List Pl)(ix:Ix):Prop where
 cg:CG w.1.1 lo
 zero:(0:Int)∈PS
 consts:∀u∈w.1.1.2.2.2.1,∀t∈u.2.2.2.2.1,t.2.2.1.2.2.2.2.1∈PS
 pl:∀a p i:Int,0≤a→a<(w.1.1.2.2.1.length:Int)→p∈PS→0≤i→i<4→(a,(p,(i,())))∈U
 len:U.length≤1000000
 fl:∀a,0≤a→a<(w.1.1.2.2.1.length:Int)→(aP w.1.1 a).length≤1000
 ix:IX PS ix
structure WY(w:aV)(PS:Zd)(U:List Pl)(ix:Ix):Prop where
 sw:SW w.1.1
 len:U.length≤1000000
 fl:∀a,0≤a→a<(w.1.1.2.2.1.length:Int)→(aP w.1.1 a).length≤1000
 ix:IX PS ix
theorem WX.y{w:aV}{lo PS:Zd}{U:List Pl}{ix:Ix}(h:WX w lo PS U ix):WY w PS U ix:=⟨h.cg.sw,h.len,h.fl,h.ix⟩
structure FI(s:bF)(PS:Zd)(U:List Pl)(fo:FM)(se:SM)(rs:Zi):Prop where
 oK:(fo.map (·.1)).Nodup
 sub:∀e∈fo,e.1∈U
 ok:∀e∈fo,e.2.2.2.2.1=true→FV s PS e.2.1 e.1.1
 se:se.length≤1000*fo.length
 rs:rs.length≤1000*fo.length
theorem jS{α:Type}:∀(l L:List α),l.Nodup→(∀x∈l,x∈L)→l.length≤L.length:=by
 classical
 intro l
 induction l with
 |nil=>intro L _ _;exact cX _
 |
  cons a l ih=>
  intro L hn hs
  have ha:=hs a (dx ..)
  have h:=ih (L.erase a) (List.nodup_cons.1 hn).2 fun x hx=>(List.mem_erase_of_ne (fun e:x=a=>(List.nodup_cons.1 hn).1 (e▸hx))).2 (hs x (dH _ hx))
  rw[List.length_erase_of_mem ha] at h
  have hp:=List.length_pos_of_mem ha
  rw[da]
  omega
theorem FI.len{s:bF}{PS:Zd}{U:List Pl}{fo:FM}{se:SM}{rs:Zi}(h:FI s PS U fo se rs):fo.length≤U.length:=by
 have:=jS _ U h.oK fun x hx=>by
  obtain⟨e,he,rfl⟩:=List.mem_map.1 hx
  exact h.sub e he
 rwa [gv] at this
theorem ll{α:Type}{kt:Ty}{k:kt.den}{y:α}:∀{es:List (kt.den×α)},es.length≤(bK kt k y es).length
 |[]=>cX _
 |
  e::es=>by
  unfold bK
  split
  ·exact cV _
  ·rw[da,da];exact Nat.succ_le_succ ll
theorem FI.put{s:bF}{PS:Zd}{U:List Pl}{fo:FM}{se:SM}{rs:Zi}(h:FI s PS U fo se rs){p:Pl}(hp:p∈U){x:xw}(hx:x.2.2.2.1=true→FV s PS x.1 p.1){se':SM}{rs':Zi}
 (h1:se'.length≤1000*(bK aR p x fo).length) (h2:rs'.length≤1000*(bK aR p x fo).length):FI s PS U (bK aR p x fo) se' rs' where
 oK:=fJ (kt:=aR) rfl h.oK
 sub e he:=by
  rcases dC (kt:=aR) he with rfl|he
  ·exact hp
  ·exact h.sub e he
 ok e he:=by
  rcases dC (kt:=aR) he with rfl|he
  ·exact hx
  ·exact h.ok e he
 se:=h1
 rs:=h2
theorem FI.nil(s:bF)(PS:Zd)(U:List Pl):FI s PS U [] [] []:=
 ⟨List.nodup_nil,fun e he=>(by cases he),fun e he=>(by cases he),cV _,cV _⟩
theorem jI{w:aV}{PS:Zd}{U:List Pl}{ix:Ix}(hw:WY w PS U ix)(p:Pl)(d k:Int)(b:Bool)(m:DM)(z:Unit)(fo:FM)(se:SM)(rs:Zi):
 ∃L:Zh,d9 p w ix d k b m z fo se rs=some (w,ix,d,k,b,m,z,fo,se,rs,(w.1,(L,())))∧L.length≤1000*1000000∧∀f∈L,f.2.1∈PS:=by
 have hB:=hB
 suffices hW:W (d9 p w ix d k b m z fo se rs) fun r=>∃L:Zh,r=(w,ix,d,k,b,m,z,fo,se,rs,(w.1,(L,())))∧L.length≤1000*1000000∧∀f∈L,f.2.1∈PS by
  obtain⟨r,e,L,rfl,h⟩:=hW
  exact⟨L,e,h⟩
 have nil:∀f∈([]:Zh),f.2.1∈PS:=fun f hf=>(by cases hf)
 unfold d9
 by_cases h0:0≤p.1
 ·rw[cq h0]
  by_cases h1:p.1<(w.1.1.2.2.1.length:Int)
  ·rw[bR h1,aD,aA rfl,aA h0,aA h1]
   have e:(nth aU w.1.1.2.2.1 p.1).2.2.2.2.1=aP w.1.1 p.1:=rfl
   have hF:=hw.fl _ h0 h1
   rw[e]
   refine aZ.2 (W.ct (bW (L:=iT) rfl (CT (fun r=>∃L:Zh,r=(w,ix,d,k,b,m,z,fo,se,rs,w.1,L)∧L.length≤1000*1000000∧∀f∈L,f.2.1∈PS) fun _=>False) (aP w.1.1 p.1).length (fun c(L:Zh)=>(((aP w.1.1 p.1).length:Int),(c:Int),w,ix,d,k,b,m,z,fo,se,rs,p,w.1,L)) (fun c L=>L.length≤c*1000000∧∀f∈L,f.2.1∈PS) ?step ?stop _ 0 [] (by omega) (by omega) ⟨cX _,nil⟩) (fun r h=>?_) fun r h=>?_)
   case step=>
    rintro rec c L hc ⟨hL,hP⟩ kk
    dsimp only
    have hw2:=fF c (by omega)
    obtain⟨q1,q2⟩:=hw.ix (p.1,(p.2.1,(aQ ((aQ ((16:Int)*p.2.2.1))+(c:Int)),())))
    rw[cq (by omega),aA (by omega),hw2]
    refine kk _ ⟨by rw[cz];omega,fun f hf=>?_⟩
    rcases List.mem_append.1 hf with h|h
    ·exact hP f h
    ·exact q2 f h
   case stop=>
    rintro rec L ⟨hL,hP⟩
    dsimp only
    rw[eF (by omega)]
    exact⟨_,rfl,L,rfl,cW hL (ju _ hF),hP⟩
   ·obtain⟨L,rfl,h⟩:=h
    exact⟨_,rfl,L,rfl,h⟩
   ·exact h.elim
  ·rw[cD h1];exact⟨_,rfl,[],rfl,cX _,nil⟩
 ·rw[aB (show¬decide ((0:Int)≤p.1)=true by simpa using h0)];exact⟨_,rfl,[],rfl,cX _,nil⟩
def PL(w:aV)(PS:Zd)(U:List Pl)(ix:Ix)(d k:Int)(b:Bool)(m:DM)(z:Unit)(p:Pl)(r:aV×Ix×Int×Int×Bool×DM×Unit×FM×SM×xw×List oE):Prop:=
 ∃fo se x rs,r=(w,ix,d,k,b,m,z,fo,se,x,rs)∧FI w.1.1 PS U fo se rs∧(x.2.2.2.1=true→FV w.1.1 PS x.1 p.1)
theorem rU{w:aV}{PS:Zd}{U:List Pl}{ix:Ix}(hw:WY w PS U ix)(p:Pl)(d k:Int)(b:Bool)(m:DM)(z:Unit){fo:FM}{se:SM}{rs:Zi}(h:FI w.1.1 PS U fo se rs)(hp:ep aR p fo=false)(hU:p∈U)(hP:p.2.1∈PS):
 ∃(L:Zh)(y:Bool)(x:jB)(n:Zi)(se':SM)(rs':Zi),d9 p w ix d k b m z fo se rs=some (w,ix,d,k,b,m,z,fo,se,rs,(w.1,(L,())))∧mU (w.1,(L,())) p.1 p.2.1 p.2.2.1 d k=some (y,x,n)∧
  gq rs n w ix d k b m z fo se=some (n,w,ix,d,k,b,m,z,fo,se',rs')∧fo.length+1≤aF∧
  PL w PS U ix d k b m z p (w,ix,d,k,b,m,z,bK aR p (x,((0:Int),(([]:Zo),(y,())))) fo,se',(x,((0:Int),(([]:Zo),(y,())))),rs'):=by
 have hB:=hB
 obtain⟨L,e1,hL,hPS⟩:=jI hw p d k b m z fo se rs
 obtain⟨⟨y,x,n⟩,e2,hn,hx⟩:=nr (PS:=PS) (w.1,(L,())) hw.sw.nb hw.sw.rules hw.fl (by show L.length≤aF;omega) hPS p.1 p.2.1 p.2.2.1 d k hP
 dsimp only at hn hx
 have hlen:=h.len
 have h1:=hw.len
 have h2:=h.se
 have h3:=h.rs
 obtain⟨se',rs',e3,q1,q2⟩:=fK n se rs (by omega) (by omega)
 refine⟨L,y,x,n,se',rs',e1,e2,?_,by omega,?_⟩
 ·unfold gq
  rw[aA (by omega),e3]
  rfl
 ·have hnew:(bK aR p (x,((0:Int),(([]:Zo),(y,())))) fo).length=fo.length+1:=by
   rw[mA (kt:=aR) rfl (fun hm=>by rw[(il (kt:=aR) rfl).2 hm] at hp;cases hp),cz,bD]
  exact⟨_,_,_,_,rfl,h.put hU hx (by omega) (by omega),hx⟩
abbrev Q0:=Pl×aV×Ix×Int×Int×Bool×DM×Unit×FM×SM×List oE×Unit→Option (aV×Ix×Int×Int×Bool×DM×Unit×FM×SM×xw×List oE)
abbrev Q1:=eU×Int×List jB×aV×Ix×Int×Int×Bool×DM×Unit×FM×SM×List oE×Unit→Option (Bool×eU×Int×aV×Ix×Int×Int×Bool×DM×Unit×FM×SM×List jB×List oE)
theorem ln{s:bF}{PS:Zd}{u:eU}{l:Zo}(hN:NB s)(hL:LI s PS u l)(hl:l.length=u.2.2.1.length){t:gQ}(ht:ml (cR s u) t)(h1:t.2.2.1≠-1):
 ∃n,∀(w:aV),w.1.1=s→∀ix d k b m z fo se rs,i7 t u w ix d k b m z l fo se rs=some (n,u,w,ix,d,k,b,m,z,l,fo,se,rs):=by
 rcases ht with hi|hi
 ·obtain⟨v,hv,_⟩:=qf hL hl (Or.inl hi)
  obtain⟨p,hp⟩:=lk s hN ([],([],((nth bG u.2.2.1 t.2.2.1).2.2.1,(t.2.2.2.1,())))) v
  refine⟨p.1,fun w hw ix d k b m z fo se rs=>?_⟩
  have hp':f32 w.1.1 ([],([],((nth bG u.2.2.1 t.2.2.1).2.2.1,(t.2.2.2.1,())))) v=some p:=by rw[hw];exact hp
  unfold i7
  rw[aA hi.v0,aA (show t.2.2.1<(u.2.2.1.length:Int) from hi.v1),hv,aD,hp']
  rfl
 ·exact absurd hi h1
theorem ue{s:bF}{PS:Zd}{u:eU}{l:Zo}(hN:NB s)(hw:u.2.2.2.1.length≤aF)(hR:RK (cR s u))(hL:LI s PS u l)(hl:l.length=u.2.2.1.length):
 ∃y,∀(w:aV),w.1.1=s→∀ix d k b m z fo se rs,fE u w ix d k b m z l fo se rs=some (y,w,ix,d,k,b,m,z,l,fo,se,rs):=by
 have hB:=hB
 have key:∀n i:Nat,u.2.2.2.1.length -i<n→i≤u.2.2.2.1.length→∃y:Bool,∀(w:aV),w.1.1=s→∀ix d k b m z fo se rs,
  cZ n (u.2.2.2.1,(u.2.2.2.1.length:Int),(i:Int),w,ix,d,k,b,m,z,l,fo,se,rs,u)=some (if y=true then .aS (w,ix,d,k,b,m,z,l,fo,se,rs) else .ret (false,w,ix,d,k,b,m,z,l,fo,se,rs)):=by
  intro n
  induction n with
  |zero=>intro i h;omega
  |
   succ n ih=>
   intro i hn hi
   by_cases h:i<u.2.2.2.1.length
   ·have hm:ml (cR s u) (nth cH u.2.2.2.1 (i:Int)).2.1∧ml (cR s u) (nth cH u.2.2.2.1 (i:Int)).2.2.1:=hR.wh _ (bE (t:=cH) (l:=u.2.2.2.1) (cu i) (show(i:Int)<(u.2.2.2.1.length:Int) by omega))
    obtain⟨y,hy⟩:=ih (i+1) (by omega) (by omega)
    have hw2:=fF i (by omega)
    have hi1:(i:Int)<(u.2.2.2.1.length:Int):=by omega
    generalize ha:nth cH u.2.2.2.1 (i:Int)=a at hm
    obtain⟨v1,e1,_⟩:=qf hL hl hm.1
    obtain⟨v2,e2,_⟩:=qf hL hl hm.2
    have fin:∀(p q:Int)(c:Bool),wc a.1 p q=some c→∀(w:aV) ix d k b m z fo se rs(rec:(ZE)×Int×Int×aV×Ix×Int×Int×Bool×DM×Unit×(Zo)×FM×SM×(Zi)×eU→Option (dN (aV×Ix×Int×Int×Bool×DM×Unit×(Zo)×FM×SM×(Zi)) (Bool×aV×Ix×Int×Int×Bool×DM×Unit×(Zo)×FM×SM×(Zi)))),
     rec (u.2.2.2.1,(u.2.2.2.1.length:Int),((i+1:Nat):Int),w,ix,d,k,b,m,z,l,fo,se,rs,u)=some (if y=true then .aS (w,ix,d,k,b,m,z,l,fo,se,rs) else .ret (false,w,ix,d,k,b,m,z,l,fo,se,rs))→
     (Option.bind (wc a.1 p q) fun y10=>if(!y10)=true then(cN (some (false,w,ix,d,k,b,m,z,l,fo,se,rs))) else(rec (u.2.2.2.1,(u.2.2.2.1.length:Int),aQ ((i:Int)+(1:Int)),w,ix,d,k,b,m,z,l,fo,se,rs,u)))=some (if(c&&y)=true then .aS (w,ix,d,k,b,m,z,l,fo,se,rs) else .ret (false,w,ix,d,k,b,m,z,l,fo,se,rs)):=by
     intro p q c hc w ix d k b m z fo se rs rec hr
     rw[hc,aD]
     cases c with
     |false=>rfl
     |true=>rw[aB (by decide),hw2,hr];rfl
    have hi0:=cu i
    by_cases n1:a.2.1.2.2.1= -1
    ·obtain⟨c,hc⟩:=dO a.1 v1 v2
     refine⟨c&&y,fun w hws ix d k b m z fo se rs=>?_⟩
     have hyw:=hy w hws ix d k b m z fo se rs
     unfold cZ at hyw ⊢
     rw[aK]
     generalize aL _ n=rec at hyw ⊢
     dsimp only
     rw[cq hi1,aA hi0,aA hi1,ha,e1,aD,e2,aD,aB (show¬(!decide (a.2.1.2.2.1=(-1:Int)))=true by simpa using n1)]
     exact fin v1 v2 c hc w ix d k b m z fo se rs rec hyw
    ·by_cases n2:a.2.2.1.2.2.1= -1
     ·obtain⟨c,hc⟩:=dO a.1 v1 v2
      refine⟨c&&y,fun w hws ix d k b m z fo se rs=>?_⟩
      have hyw:=hy w hws ix d k b m z fo se rs
      unfold cZ at hyw ⊢
      rw[aK]
      generalize aL _ n=rec at hyw ⊢
      dsimp only
      rw[cq hi1,aA hi0,aA hi1,ha,e1,aD,e2,aD,aA (show(!decide (a.2.1.2.2.1=(-1:Int)))=true by simpa using n1),aD,aB (show¬(!decide (a.2.2.1.2.2.1=(-1:Int)))=true by simpa using n2)]
      exact fin v1 v2 c hc w ix d k b m z fo se rs rec hyw
     ·obtain⟨p,hp⟩:=ln hN hL hl hm.1 n1
      obtain⟨q,hq⟩:=ln hN hL hl hm.2 n2
      obtain⟨c,hc⟩:=dO a.1 p q
      refine⟨c&&y,fun w hws ix d k b m z fo se rs=>?_⟩
      have hyw:=hy w hws ix d k b m z fo se rs
      unfold cZ at hyw ⊢
      rw[aK]
      generalize aL _ n=rec at hyw ⊢
      dsimp only
      rw[cq hi1,aA hi0,aA hi1,ha,e1,aD,e2,aD,aA (show(!decide (a.2.1.2.2.1=(-1:Int)))=true by simpa using n1),aD,aA (show(!decide (a.2.2.1.2.2.1=(-1:Int)))=true by simpa using n2),hp w hws ix d k b m z fo se rs,aD]
      dsimp only
      rw[hq w hws ix d k b m z fo se rs,aD]
      exact fin p q c hc w ix d k b m z fo se rs rec hyw
   ·refine⟨true,fun w hws ix d k b m z fo se rs=>?_⟩
    unfold cZ
    rw[aK]
    dsimp only
    rw[eF (by omega)]
    rfl
 obtain⟨y,hy⟩:=key (Int.toNat (List.length u.2.2.2.1:Int)+1) 0 (by omega) (by omega)
 refine⟨y,fun w hws ix d k b m z fo se rs=>?_⟩
 have hyw:cZ (Int.toNat (List.length u.2.2.2.1:Int)+1) (u.2.2.2.1,(List.length u.2.2.2.1:Int),(0:Int),w,ix,d,k,b,m,z,l,fo,se,rs,u)=_:=hy w hws ix d k b m z fo se rs
 unfold fE
 rw[hyw]
 cases y<;>rfl
theorem qh{s:bF}{PS:Zd}{u:eU}{l:Zo}(hw:u.2.2.2.2.1.length≤aF)(hR:RK (cR s u))(hL:LI s PS u l)(hl:l.length=u.2.2.1.length)(hf:1≤(aP s u.2.1).length)(hf2:(aP s u.2.1).length≤1000)(p:Int)(hp:p∈PS)(h0:(0:Int)∈PS)(hc:∀t∈u.2.2.2.2.1,t.2.2.1.2.2.2.2.1∈PS):
 ∃x,FV s PS x u.2.1∧∀(w:aV),w.1.1=s→∀ix d k b m z fo se rs,fD u p l w ix d k b m z fo se rs=some (w,ix,d,k,b,m,z,fo,se,rs,x):=by
 have hB:=hB
 have key:∀(n i:Nat)(v:Zd),u.2.2.2.2.1.length -i<n→i≤u.2.2.2.2.1.length→v.length=(aP s u.2.1).length→(∀x∈v,x∈PS)→∃v',v'.length=(aP s u.2.1).length∧(∀x∈v',x∈PS)∧∀(w:aV) ix d k b m z fo se rs,
  dQ n (p,l,u.2.2.2.2.1,(u.2.2.2.2.1.length:Int),(i:Int),w,ix,d,k,b,m,z,fo,se,rs,u,(0:Int),(0:Int),(0:Int),v)=some (.aS (p,w,ix,d,k,b,m,z,fo,se,rs,u,(0:Int),(0:Int),(0:Int),v')):=by
  intro n
  induction n with
  |zero=>intro i v h;omega
  |
   succ n ih=>
   intro i v hn hi hv hP
   by_cases h:i<u.2.2.2.2.1.length
   ·have hi1:(i:Int)<(u.2.2.2.2.1.length:Int):=by omega
    have hi0:=cu i
    have hm:=bE (t:=dF) (l:=u.2.2.2.2.1) hi0 hi1
    have hw2:=fF i (by omega)
    have hc2:=hc _ hm
    obtain⟨hi,ht⟩:=hR.st _ hm
    obtain⟨y,ey,hy⟩:=qf hL hl ht
    have hb:(nth dF u.2.2.2.2.1 (i:Int)).2.1<(v.length:Int):=by rw[hv];exact hi.b1
    obtain⟨v',q1,q2,q3⟩:=ih (i+1) (List.set v (Int.toNat (nth dF u.2.2.2.2.1 (i:Int)).2.1) y) (by omega) (by omega) (by rw[cP];exact hv) (fun x hx=>by
     rcases uO hx with h|rfl
     ·exact hP _ h
     ·rcases hy with h|⟨_,rfl⟩
      ·exact h
      ·exact hc2)
    refine⟨v',q1,q2,fun w ix d k b m z fo se rs=>?_⟩
    have hyw:=q3 w ix d k b m z fo se rs
    unfold dQ at hyw ⊢
    rw[aK]
    generalize aL _ n=rec at hyw ⊢
    dsimp only
    rw[cq hi1,aA hi0,aA hi1,ey,aD,aA hi.b0,aA hb,hw2]
    exact hyw
   ·refine⟨v,hv,hP,fun w ix d k b m z fo se rs=>?_⟩
    unfold dQ
    rw[aK]
    dsimp only
    rw[eF (by omega)]
 obtain⟨v',q1,q2,q3⟩:=key (Int.toNat (List.length u.2.2.2.2.1:Int)+1) 0 (List.set (List.replicate (Int.toNat ((aP s u.2.1).length:Int)) (0:Int)) (Int.toNat (0:Int)) p) (by omega) (by omega) (by rw[cP,gn,dV]) (fun x hx=>by
  rcases uO hx with h|rfl
  ·rw[List.mem_replicate] at h
   rw[h.2];exact h0
  ·exact hp)
 refine⟨(u.2.1,(p,((0:Int),(v',())))),⟨q1,q2⟩,fun w hws ix d k b m z fo se rs=>?_⟩
 subst hws
 have e:(nth aU w.1.1.2.2.1 u.2.1).2.2.2.2.1=aP w.1.1 u.2.1:=rfl
 have q:=q3 w ix d k b m z fo se rs
 have q':dQ (Int.toNat (List.length u.2.2.2.2.1:Int)+1) (p,l,u.2.2.2.2.1,(List.length u.2.2.2.2.1:Int),(0:Int),w,ix,d,k,b,m,z,fo,se,rs,u,(0:Int),(0:Int),(0:Int),List.set (List.replicate (Int.toNat ((aP w.1.1 u.2.1).length:Int)) (0:Int)) (Int.toNat (0:Int)) p)=_:=q
 unfold fD
 rw[aA hR.h0,aA hR.h1,e,dK _,aA (fQ _),aA (by omega),aA (by rw[gn,dV];omega),q',aC]
def cY(s:bF)(ix:Ix)(p:Pl):Zh:=if 0≤p.1∧p.1<(s.2.2.1.length:Int) then(List.range (aP s p.1).length).flatMap fun(c:Nat)=>aO aR (.slice 64 aN) (p.1,(p.2.1,(aQ ((aQ ((16:Int)*p.2.2.1))+(c:Int)),()))) (bA ix) else[]
theorem lq{w:aV}{PS:Zd}{U:List Pl}{ix:Ix}(hw:WY w PS U ix)(p:Pl)(d k:Int)(b:Bool)(m:DM)(z:Unit)(fo:FM)(se:SM)(rs:Zi):
 d9 p w ix d k b m z fo se rs=some (w,ix,d,k,b,m,z,fo,se,rs,(w.1,(cY w.1.1 ix p,()))):=by
 have hB:=hB
 suffices hW:W (d9 p w ix d k b m z fo se rs) fun r=>r=(w,ix,d,k,b,m,z,fo,se,rs,(w.1,(cY w.1.1 ix p,()))) by
  obtain⟨r,e,rfl⟩:=hW
  exact e
 unfold d9
 by_cases h0:0≤p.1
 ·rw[cq h0]
  by_cases h1:p.1<(w.1.1.2.2.1.length:Int)
  ·rw[bR h1,aD,aA rfl,aA h0,aA h1]
   have e:(nth aU w.1.1.2.2.1 p.1).2.2.2.2.1=aP w.1.1 p.1:=rfl
   have hF:=hw.fl _ h0 h1
   rw[e]
   have ea:cY w.1.1 ix p=(List.range (aP w.1.1 p.1).length).flatMap fun(c:Nat)=>aO aR (.slice 64 aN) (p.1,(p.2.1,(aQ ((aQ ((16:Int)*p.2.2.1))+(c:Int)),()))) (bA ix):=aA ⟨h0,h1⟩
   rw[ea]
   refine aZ.2 (W.ct (bW (L:=iT) rfl (CT (fun r=>r=(w,ix,d,k,b,m,z,fo,se,rs,w.1,(List.range (aP w.1.1 p.1).length).flatMap fun(c:Nat)=>aO aR (.slice 64 aN) (p.1,(p.2.1,(aQ ((aQ ((16:Int)*p.2.2.1))+(c:Int)),()))) (bA ix))) fun _=>False) (aP w.1.1 p.1).length (fun c(L:Zh)=>(((aP w.1.1 p.1).length:Int),(c:Int),w,ix,d,k,b,m,z,fo,se,rs,p,w.1,L)) (fun c L=>L.length≤c*1000000∧L=(List.range c).flatMap fun(c:Nat)=>aO aR (.slice 64 aN) (p.1,(p.2.1,(aQ ((aQ ((16:Int)*p.2.2.1))+(c:Int)),()))) (bA ix)) ?step ?stop _ 0 [] (by omega) (by omega) ⟨cX _,rfl⟩) (fun r h=>?_) fun r h=>h.elim)
   case step=>
    rintro rec c L hc ⟨hL,hP⟩ kk
    dsimp only
    have hw2:=fF c (by omega)
    obtain⟨q1,q2⟩:=hw.ix (p.1,(p.2.1,(aQ ((aQ ((16:Int)*p.2.2.1))+(c:Int)),())))
    rw[cq (by omega),aA (by omega),hw2]
    refine kk _ ⟨by rw[cz];omega,?_⟩
    rw[List.range_succ,List.flatMap_append,←hP,List.flatMap_cons,List.flatMap_nil,cw]
   case stop=>
    rintro rec L ⟨hL,hP⟩
    dsimp only
    rw[eF (by omega),hP]
    exact⟨_,rfl,rfl⟩
   ·subst h
    exact⟨_,rfl,rfl⟩
  ·have ea:cY w.1.1 ix p= []:=aB fun h=>h1 h.2
   rw[cD h1,ea];exact⟨_,rfl,rfl⟩
 ·have ea:cY w.1.1 ix p= []:=aB fun h=>h0 h.1
  rw[aB (show¬decide ((0:Int)≤p.1)=true by simpa using h0),ea];exact⟨_,rfl,rfl⟩
structure T2(w1:aV)(ix1:Ix)(k1:Int)(w2:aV)(ix2:Ix)(k2:Int)(lo PS:Zd)(U:List Pl)(d:Int)(Gd:oE→Prop):Prop where
 h1:WX w1 lo PS U ix1
 h2:WX w2 lo PS U ix2
 tb:w2.1=w1.1
 rd:∀(p:Pl) r,mU (w1.1,(cY w1.1.1 ix1 p,())) p.1 p.2.1 p.2.2.1 d k1=some r→(∀q∈r.2.2,Gd q)→mU (w2.1,(cY w2.1.1 ix2 p,())) p.1 p.2.1 p.2.2.1 d k2=some r
structure FT(b:bF):Prop where
 dh:b.2.2.1.length≤6
 rules:b.2.2.2.1.length≤4
 fields:∀x∈b.2.2.1,x.2.2.2.2.1.length≤6
 Il:∀x∈b.2.2.2.1,x.2.2.2.2.1.length≤6
theorem qi(b:bF)(h:SS b):∃r,yT b=some r∧(r=true→FT b):=by
 have hB:=hB
 have h3:=h.dh
 have h4:=h.rules
 have h5:=h.fX
 have h6:=h.dX
 suffices hW:W (yT b) fun r=>r=true→FT b by
  obtain⟨r,e,h⟩:=hW
  exact⟨r,e,h⟩
 have nb:∀n:Nat,n≤aF→n -0<dA:=fun n hn=>by show _<18446744073709551616;omega
 have no:(false:Bool)=true→FT b:=fun h=>(by cases h)
 unfold yT
 refine aZ.2 (W.ct (bW (L:=mX) rfl (CT (fun d=>d=b∧∀j(hj:j<b.2.2.1.length),b.2.2.1[j].2.2.2.2.1.length≤6) fun r=>r=false) b.2.2.1.length (fun c(_:Unit)=>((c:Int),b)) (fun c _=>∀j(hj:j<b.2.2.1.length),j<c→b.2.2.1[j].2.2.2.2.1.length≤6) ?step ?stop dA 0 () (nb _ h3) (by omega) (fun j _ h=>absurd h (Nat.not_lt_zero _))) (fun d hd=>?_) fun r hr=>by subst hr;exact no)
 case step=>
  intro rec c _ hc hI kk
  dsimp only
  have hw2:=fF c (by omega)
  have hcc:(c:Int)<(b.2.2.1.length:Int):=by omega
  rw[cq hcc,dK c,aA hcc,cJ (t:=aU) hc]
  by_cases a1:(6:Int)<(b.2.2.1[c].2.2.2.2.1.length:Int)
  ·rw[cq a1];exact⟨_,rfl,rfl⟩
  ·rw[aB (show¬decide ((6:Int)<(b.2.2.1[c].2.2.2.2.1.length:Int))=true by simpa using a1),dK c,aA hcc,aD]
   split
   ·exact⟨_,rfl,rfl⟩
   ·rw[hw2]
    refine kk () fun j hj hjc=>?_
    by_cases e:j=c
    ·subst e;omega
    ·exact hI j hj (by omega)
 case stop=>
  intro rec _ hI
  dsimp only
  rw[eF (by omega)]
  exact⟨_,rfl,rfl,fun j hj=>hI j hj hj⟩
 obtain⟨rfl,hf⟩:=hd
 refine aZ.2 (W.ct (bW (L:=mY) rfl (CT (fun d'=>d'=d∧∀j(hj:j<d.2.2.2.1.length),d.2.2.2.1[j].2.2.2.2.1.length≤6) fun r=>r=false) d.2.2.2.1.length (fun c(_:Unit)=>((c:Int),d)) (fun c _=>∀j(hj:j<d.2.2.2.1.length),j<c→d.2.2.2.1[j].2.2.2.2.1.length≤6) ?step ?stop dA 0 () (nb _ h4) (by omega) (fun j _ h=>absurd h (Nat.not_lt_zero _))) (fun d' hd=>?_) fun r hr=>by subst hr;exact no)
 case step=>
  intro rec c _ hc hI kk
  dsimp only
  have hw2:=fF c (by omega)
  have hcc:(c:Int)<(d.2.2.2.1.length:Int):=by omega
  rw[cq hcc,dK c,aA hcc,cJ (t:=bX) hc]
  by_cases a1:(4:Int)<(d.2.2.2.1[c].2.2.1.length:Int)
  ·rw[cq a1];exact⟨_,rfl,rfl⟩
  ·rw[aB (show¬decide ((4:Int)<(d.2.2.2.1[c].2.2.1.length:Int))=true by simpa using a1),dK c,aA hcc]
   by_cases a2:(5:Int)<(d.2.2.2.1[c].2.2.2.1.length:Int)
   ·rw[cq a2];exact⟨_,rfl,rfl⟩
   ·rw[aB (show¬decide ((5:Int)<(d.2.2.2.1[c].2.2.2.1.length:Int))=true by simpa using a2),dK c,aA hcc,aD]
    by_cases a3:(6:Int)<(d.2.2.2.1[c].2.2.2.2.1.length:Int)
    ·rw[cq a3];exact⟨_,rfl,rfl⟩
    ·rw[aB (show¬decide ((6:Int)<(d.2.2.2.1[c].2.2.2.2.1.length:Int))=true by simpa using a3),hw2]
     refine kk () fun j hj hjc=>?_
     by_cases e:j=c
     ·subst e;omega
     ·exact hI j hj (by omega)
 case stop=>
  intro rec _ hI
  dsimp only
  rw[eF (by omega)]
  exact⟨_,rfl,rfl,fun j hj=>hI j hj hj⟩
 obtain⟨rfl,hs⟩:=hd
 refine aZ.2 (W.ct (bW (L:=kV) rfl (CT (fun d=>d=d') fun r=>r=false) d'.2.2.2.2.1.length (fun c(_:Unit)=>((c:Int),d')) (fun _ _=>True) ?step ?stop dA 0 () (nb _ h5) (by omega) trivial) (fun d hd=>?_) fun r hr=>by subst hr;exact no)
 case step=>
  intro rec c _ hc _ kk
  dsimp only
  have hw2:=fF c (by omega)
  have hcc:(c:Int)<(d'.2.2.2.2.1.length:Int):=by omega
  rw[cq hcc,dK c,aA hcc]
  split
  ·exact⟨_,rfl,rfl⟩
  ·rw[hw2];exact kk () trivial
 case stop=>
  intro rec _ _
  dsimp only
  rw[eF (by omega)]
  exact⟨_,rfl,rfl⟩
 subst hd
 refine aZ.2 (W.ct (bW (L:=kW) rfl (CT (fun d'=>d'=d) fun r=>r=false) d.2.2.2.2.2.1.length (fun c(_:Unit)=>((c:Int),d)) (fun _ _=>True) ?step ?stop dA 0 () (nb _ h6) (by omega) trivial) (fun d' hd=>?_) fun r hr=>by subst hr;exact no)
 case step=>
  intro rec c _ hc _ kk
  dsimp only
  have hw2:=fF c (by omega)
  have hcc:(c:Int)<(d.2.2.2.2.2.1.length:Int):=by omega
  rw[cq hcc,dK c,aA hcc]
  split
  ·exact⟨_,rfl,rfl⟩
  ·rw[hw2];exact kk () trivial
 case stop=>
  intro rec _ _
  dsimp only
  rw[eF (by omega)]
  exact⟨_,rfl,rfl⟩
 subst hd
 by_cases c1:(d'.1.length:Int)≤4
 ·rw[cq c1]
  by_cases c2:(d'.2.1.length:Int)≤5
  ·rw[cq c2]
   by_cases c3:(d'.2.2.1.length:Int)≤6
   ·rw[cq c3]
    by_cases c4:(d'.2.2.2.1.length:Int)≤4
    ·rw[cq c4]
     have iq:FT d':=⟨by omega,by omega,fun x hx=>by
      obtain⟨j,hj,rfl⟩:=iG hx
      exact hf j hj,fun x hx=>by
      obtain⟨j,hj,rfl⟩:=iG hx
      exact hs j hj⟩
     split
     ·exact⟨_,rfl,fun _=>iq⟩
     ·exact⟨_,rfl,no⟩
    ·rw[aB (show¬decide ((d'.2.2.2.1.length:Int)≤4)=true by simpa using c4)];exact⟨_,rfl,no⟩
   ·rw[aB (show¬decide ((d'.2.2.1.length:Int)≤6)=true by simpa using c3)];exact⟨_,rfl,no⟩
  ·rw[aB (show¬decide ((d'.2.1.length:Int)≤5)=true by simpa using c2)];exact⟨_,rfl,no⟩
 ·rw[aB (show¬decide ((d'.1.length:Int)≤4)=true by simpa using c1)];exact⟨_,rfl,no⟩
theorem qj(w:aV)(h:SS w.1.1):∃r,B8 w=some r∧(r=true→FT w.1.1∧w.2.1.length≤60):=by
 obtain⟨r,e,hr⟩:=qi w.1.1 h
 unfold B8 Hd
 rw[e,aD]
 cases r with
 |false=>exact⟨false,rfl,fun h=>(by cases h)⟩
 |
  true=>
  have ht:=hr rfl
  rw[aA rfl,aD,aD]
  split
  ·exact⟨_,rfl,fun h=>⟨ht,by have h:(w.2.1.length:Int)≤60:=bY h;omega⟩⟩
  ·exact⟨false,rfl,fun h=>(by cases h)⟩
theorem qk(w:aV)(h:SS w.1.1):∃r,f8 w=some r∧(r=true→FT w.1.1∧w.2.1.length≤60):=by
 have hB:=hB
 have h4:=h.rules
 suffices hW:W (f8 w) fun r=>r=true→FT w.1.1∧w.2.1.length≤60 by
  obtain⟨r,e,h⟩:=hW
  exact⟨r,e,h⟩
 have no:(false:Bool)=true→FT w.1.1∧w.2.1.length≤60:=fun h=>(by cases h)
 unfold f8
 refine aZ.2 (W.ct (bW (L:=rA) rfl (CT (fun d=>d=(w,w.1.1)) fun r=>r=false) w.1.1.2.2.2.1.length (fun c(_:Unit)=>((c:Int),w,w.1.1)) (fun _ _=>True) ?step ?stop dA 0 () (by show _<18446744073709551616;omega) (by omega) trivial) (fun d hd=>?_) fun r hr=>by subst hr;exact no)
 case step=>
  intro rec c _ hc _ kk
  dsimp only
  have hw2:=fF c (by omega)
  have hcc:(c:Int)<(w.1.1.2.2.2.1.length:Int):=by omega
  rw[cq hcc,dK c,aA hcc]
  split
  ·exact⟨_,rfl,rfl⟩
  ·rw[hw2];exact kk () trivial
 case stop=>
  intro rec _ _
  dsimp only
  rw[eF (by omega)]
  exact⟨_,rfl,rfl⟩
 subst hd
 dsimp only
 obtain⟨r,e,hr⟩:=qj w h
 rw[e,aD]
 cases r with
 |false=>exact⟨false,rfl,no⟩
 |
  true=>
  have ht:=hr rfl
  rw[aA rfl]
  split
  ·exact⟨_,rfl,fun _=>ht⟩
  ·exact⟨false,rfl,no⟩
def dr(k:hJ)(l:Zh):Zh:=l.filter fun f=>bM aR f.1 k
theorem kP(k:hJ)(l:Zh)(x:iL):dr k (l++[x])=dr k l++if bM aR x.1 k=true then[x] else[]:=by
 unfold dr
 rw[List.filter_append,jC]
 rfl
def gW(l:Zl):Zr:=l.foldl (fun m u=>bK (.int .i64) u.2.1 true m) []
theorem lT(l:Zl)(u:eU):gW (l++[u])=bK (.int .i64) u.2.1 true (gW l):=by
 unfold gW
 rw[List.foldl_append]
 rfl
theorem iN:∀(l:Zl)(m:Zr),(l.foldl (fun m u=>bK (.int .i64) u.2.1 true m) m).length≤m.length+l.length
 |[],m=>cV _
 |
  u::l,m=>by
  have h:=iN l (bK (.int .i64) u.2.1 true m)
  have h2:(bK (.int .i64) u.2.1 true m).length≤m.length+1:=dp (kt:=.int .i64)
  rw[List.foldl_cons,da]
  omega
theorem nu(l:Zl):(gW l).length≤l.length:=by
 have h:=iN l []
 rw[fO,ek] at h
 exact h
theorem kQ(a:Int):∀(l:Zl)(m:Zr),aO (.int .i64) .bool a (l.foldl (fun m u=>bK (.int .i64) u.2.1 true m) m)=true→aO (.int .i64) .bool a m=true∨∃u∈l,u.2.1=a
 |[],m,h=>Or.inl h
 |
  u::l,m,h=>by
  rw[List.foldl_cons] at h
  rcases kQ a l _ h with h|⟨v,hv,e⟩
  ·by_cases e:a=u.2.1
   ·exact Or.inr ⟨u,dx ..,e.symm⟩
   ·rw[cT (kt:=.int .i64) (vt:=.bool) rfl e] at h
    exact Or.inl h
  ·exact Or.inr ⟨v,dH _ hv,e⟩
theorem nI(a:Int)(l:Zl)(h:aO (.int .i64) .bool a (gW l)=true):∃u∈l,u.2.1=a:=(kQ a l [] h).elim (fun h=>(by cases h)) id
theorem gJ{α:Type}(l:List α)(c:Nat)(h:c<l.length):l.take (c+1)=l.take c++[l[c]]:=List.take_succ_eq_append_getElem h
theorem lU(w:aV)(hf:w.2.1.length≤1000000)(hr:w.1.1.2.2.2.1.length≤aF)(d k:Int)(v:Bool):
 ∃ix:ZD,iz w d k v=some (w,some ix,d,k,v,some (gW w.1.1.2.2.2.1),(),[],[],[])∧∀key,aO aR (.slice 64 aN) key ix=dr key w.2.1:=by
 have hB:=hB
 suffices hW:W (iz w d k v) fun r=>∃ix:ZD,r=(w,some ix,d,k,v,some (gW w.1.1.2.2.2.1),(),[],[],[])∧∀key,aO aR (.slice 64 aN) key ix=dr key w.2.1 by
  obtain⟨r,e,ix,rfl,h⟩:=hW
  exact⟨ix,e,h⟩
 unfold iz
 refine aZ.2 (W.ct (bW (L:=pa) rfl (CT (fun r=>∃ix:ZD,r=(d,k,w,ix,([]:Zr),w,(0:Int),(0:Int),v)∧∀key,aO aR (.slice 64 aN) key ix=dr key w.2.1) fun _=>False) w.2.1.length (fun c(ix:ZD)=>(d,k,w.2.1,(w.2.1.length:Int),(c:Int),w,ix,([]:Zr),w,(0:Int),(0:Int),v)) (fun c ix=>ix.length≤2*c∧∀key,aO aR (.slice 64 aN) key ix=dr key (w.2.1.take c)) ?step ?stop _ 0 [] (by omega) (by omega) ⟨cX _,fun key=>rfl⟩) (fun r hr=>?_) fun r hr=>hr.elim)
 case step=>
  rintro rec c ix hc ⟨hl,hI⟩ kk
  dsimp only
  have hw2:=fF c (by omega)
  have hcc:(c:Int)<(w.2.1.length:Int):=by omega
  rw[cq hcc,dK c,aA hcc,cJ (t:=aN) hc]
  have ht:=gJ w.2.1 c hc
  generalize w.2.1[c]=x at ht ⊢
  have h1:(aO aR (.slice 64 aN) x.1 ix).length≤w.2.1.length:=by
   rw[hI x.1]
   exact cW (n7 ..) (by rw[gE];omega)
  rw[aA ((dw aR x.1 x.1).2 rfl),aA (show ix.length+1≤aF by omega),aA (show((aO aR (.slice 64 aN) x.1 ix).length+List.length [x])*64≤aF by rw[bD];omega),hw2]
  refine kk _ ⟨?_,fun key=>?_⟩
  ·have q1:(bK aR x.1 (Ty.aH (.slice 64 aN)) ix).length≤ix.length+1:=dp (kt:=aR)
   have q2:(bK aR x.1 (aO aR (.slice 64 aN) x.1 ix++[x]) (bK aR x.1 (Ty.aH (.slice 64 aN)) ix)).length≤(bK aR x.1 (Ty.aH (.slice 64 aN)) ix).length+1:=dp (kt:=aR)
   omega
  ·rw[ht,kP]
   by_cases e:key=x.1
   ·subst e
    rw[dj (kt:=aR) (vt:=.slice 64 aN) rfl,hI,aA ((dw aR x.1 x.1).2 rfl)]
   ·rw[cT (kt:=aR) (vt:=.slice 64 aN) rfl e,cT (kt:=aR) (vt:=.slice 64 aN) rfl e,hI,aB (fun h=>e ((dw aR x.1 key).1 h).symm),cw]
 case stop=>
  rintro rec ix ⟨hl,hI⟩
  dsimp only
  rw[eF (by omega)]
  rw[List.take_length] at hI
  exact⟨_,rfl,ix,rfl,hI⟩
 obtain⟨ix,rfl,hI⟩:=hr
 dsimp only
 refine aZ.2 (W.ct (bW (L:=pb) rfl (CT (fun r=>r=(d,k,ix,gW w.1.1.2.2.2.1,w,(0:Int),(0:Int),v)) fun _=>False) w.1.1.2.2.2.1.length (fun c(m:Zr)=>(d,k,w.1.1.2.2.2.1,(w.1.1.2.2.2.1.length:Int),(c:Int),ix,m,w,(0:Int),(0:Int),v)) (fun c m=>m=gW (w.1.1.2.2.2.1.take c)) ?step ?stop _ 0 [] (by omega) (by omega) rfl) (fun r hr=>?_) fun r hr=>hr.elim)
 case step=>
  rintro rec c m hc rfl kk
  dsimp only
  have hw2:=fF c (by omega)
  have hcc:(c:Int)<(w.1.1.2.2.2.1.length:Int):=by omega
  have hl:=nu (w.1.1.2.2.2.1.take c)
  rw[gE] at hl
  rw[cq hcc,dK c,aA hcc,aA (show(gW (w.1.1.2.2.2.1.take c)).length+1≤aF by omega),hw2,cJ (t:=bX) hc]
  exact kk _ (by rw[gJ _ _ hc,lT])
 case stop=>
  rintro rec m rfl
  dsimp only
  rw[eF (by omega),List.take_length]
  exact⟨_,rfl,rfl⟩
 subst hr
 exact⟨_,rfl,ix,rfl,hI⟩
theorem gD{α β:Type}{f:α→List β}{n:Nat}:∀{l:List α},(∀x∈l,(f x).length≤n)→(l.flatMap f).length≤l.length*n
 |[],_=>cX _
 |
  x::l,h=>by
  have h1:=h x (dx ..)
  have h2:=gD (f:=f) (n:=n) (l:=l) fun y hy=>h y (dH _ hy)
  rw[List.flatMap_cons,cz,da,iW]
  omega
def jJ(w:aV)(p:Int):Zd:=0::p::(w.2.1.map (fun f=>f.2.1)++w.1.1.2.2.2.1.flatMap fun u=>u.2.2.2.2.1.map fun t=>t.2.2.1.2.2.2.2.1)
def Uo(w:aV)(p:Int)(x:Pl):List Pl:=x::(List.range w.1.1.2.2.1.length).flatMap fun(i:Nat)=>(jJ w p).flatMap fun(q:Int)=>(List.range 4).map fun(j:Nat)=>(((i:Int),(q,((j:Int),()))):Pl)
theorem ql{w:aV}(p:Int)(hT:FT w.1.1)(hf:w.2.1.length≤60):(jJ w p).length≤86:=by
 have h:=gD (f:=fun u:eU=>u.2.2.2.2.1.map fun t=>t.2.2.1.2.2.2.2.1) (n:=6) (l:=w.1.1.2.2.2.1) fun x hx=>by rw[gv];exact hT.Il x hx
 have h4:=hT.rules
 unfold jJ
 rw[da,da,cz,gv]
 omega
theorem nv{w:aV}(p:Int)(x:Pl)(hT:FT w.1.1)(hf:w.2.1.length≤60):(Uo w p x).length≤2100:=by
 have h1:=ql p hT hf
 have h2:∀i:Nat,((jJ w p).flatMap fun(q:Int)=>(List.range 4).map fun(j:Nat)=>(((i:Int),(q,((j:Int),()))):Pl)).length≤344:=fun i=>by
  have:=gD (f:=fun(q:Int)=>(List.range 4).map fun(j:Nat)=>(((i:Int),(q,((j:Int),()))):Pl)) (n:=4) (l:=jJ w p) fun y _=>by rw[gv,n9];exact cV _
  omega
 have h3:=gD (f:=fun(i:Nat)=>(jJ w p).flatMap fun(q:Int)=>(List.range 4).map fun(j:Nat)=>(((i:Int),(q,((j:Int),()))):Pl)) (n:=344) (l:=List.range w.1.1.2.2.1.length) fun i _=>h2 i
 rw[n9] at h3
 have h4:=hT.dh
 unfold Uo
 rw[da]
 omega
theorem rV{w:aV}(p:Int)(x:Pl){a q i:Int}(a0:0≤a)(a1:a<(w.1.1.2.2.1.length:Int))(hq:q∈jJ w p)(i0:0≤i)(i1:i<4):(a,(q,(i,())))∈Uo w p x:=by
 refine dH _ (List.mem_flatMap.2 ⟨a.toNat,List.mem_range.2 (by omega),List.mem_flatMap.2 ⟨q,hq,List.mem_map.2 ⟨i.toNat,List.mem_range.2 (by omega),?_⟩⟩⟩)
 have e1:((a.toNat:Nat):Int)=a:=by omega
 have e2:((i.toNat:Nat):Int)=i:=by omega
 rw[e1,e2]
theorem NC{w:aV}{lo:Zd}(hc:CG w.1.1 lo)(hT:FT w.1.1)(hf:w.2.1.length≤60)(p:Int)(x:Pl){ix:Ix}(hix:IX (jJ w p) ix):WX w lo (jJ w p) (Uo w p x) ix where
 cg:=hc
 zero:=dx ..
 consts u hu t ht:=dH _ (dH _ (iX _ (List.mem_flatMap.2 ⟨u,hu,List.mem_map.2 ⟨t,ht,rfl⟩⟩)))
 pl _ _ _ a0 a1 hq i0 i1:=rV p x a0 a1 hq i0 i1
 len:=cW (nv p x hT hf) (by decide)
 fl a a0 a1:=by
  have:=hT.fields _ (bE (t:=aU) (l:=w.1.1.2.2.1) a0 a1)
  exact cW this (by decide)
 ix:=hix
theorem oG(s:bF)(hl:s.2.2.2.1.length≤aF)(a:Int):∃b,GB s a=some b∧(b=true↔∃u∈s.2.2.2.1,u.2.1=a):=by
 have hB:=hB
 suffices hW:W (GB s a) fun b=>b=true↔∃u∈s.2.2.2.1,u.2.1=a by
  obtain⟨r,e,h⟩:=hW
  exact⟨r,e,h⟩
 unfold GB
 refine aZ.2 (W.ct (bW (L:=yS) rfl (CT (fun _=>∀j(hj:j<s.2.2.2.1.length),s.2.2.2.1[j].2.1≠a) fun r=>r=true∧∃u∈s.2.2.2.1,u.2.1=a) s.2.2.2.1.length (fun c(_:Unit)=>(a,(c:Int),s)) (fun c _=>∀j(hj:j<s.2.2.2.1.length),j<c→s.2.2.2.1[j].2.1≠a) ?step ?stop dA 0 () (by show _<18446744073709551616;omega) (by omega) (fun j _ h=>absurd h (Nat.not_lt_zero _))) (fun d hd=>?_) fun r hr=>?_)
 case step=>
  intro rec c _ hc hI kk
  dsimp only
  have hw2:=fF c (by omega)
  have hcc:(c:Int)<(s.2.2.2.1.length:Int):=by omega
  rw[cq hcc,dK c,aA hcc,cJ (t:=bX) hc]
  by_cases e:s.2.2.2.1[c].2.1=a
  ·rw[cq e]
   exact⟨_,rfl,rfl,_,lD hc,e⟩
  ·rw[aB (show¬decide (s.2.2.2.1[c].2.1=a)=true by simpa using e),hw2]
   refine kk () fun j hj hjc=>?_
   by_cases e2:j=c
   ·subst e2;exact e
   ·exact hI j hj (by omega)
 case stop=>
  intro rec _ hI
  dsimp only
  rw[eF (by omega)]
  exact⟨_,rfl,fun j hj=>hI j hj hj⟩
 ·refine⟨false,rfl,fun h=>(by cases h),?_⟩
  rintro⟨u,hu,e⟩
  obtain⟨j,hj,rfl⟩:=iG hu
  exact absurd e (hd j hj)
 ·obtain⟨rfl,h⟩:=hr
  exact⟨fun _=>h,fun _=>rfl⟩
abbrev Rs:=xw
abbrev In:=jB
abbrev Rd:=oE
abbrev Ru:=eU
abbrev An:=Bool×In×List Rd
inductive Qy(α:Type) where
 |ret:α→Qy α
 |ask:Pl→(Bool→In→Qy α)→Qy α
def Qy.bind{α β:Type}:Qy α→(α→Qy β)→Qy β
 | .ret a,f=>f a
 | .ask p k,f=>.ask p fun b x=>(k b x).bind f
def Qy.run{α:Type}(O:Pl→An):Qy α→α×List Rd
 | .ret a=>(a,[])
 | .ask p k=>(((k (O p).1 (O p).2.1).run O).1,(O p).2.2++((k (O p).1 (O p).2.1).run O).2)
theorem Qy.run_bind{α β:Type}(O:Pl→An)(f:α→Qy β):∀x:Qy α,(x.bind f).run O=(((f (x.run O).1).run O).1,(x.run O).2++((f (x.run O).1).run O).2)
 | .ret a=>rfl
 |
  .ask p k=>by
  show((((k (O p).1 (O p).2.1).bind f).run O).1,(O p).2.2++(((k (O p).1 (O p).2.1).bind f).run O).2)=((((f ((k (O p).1 (O p).2.1).run O).1)).run O).1,((O p).2.2++((k (O p).1 (O p).2.1).run O).2)++((f ((k (O p).1 (O p).2.1).run O).1).run O).2)
  rw[Qy.run_bind O f (k (O p).1 (O p).2.1),iH]
open Classical in
def aT:List Rd→List Rd→List Rd
 |rs,[]=>rs
 |rs,r::t=>aT (if r∈rs then rs else rs++[r]) t
theorem bT:∀(a rs b:List Rd),aT rs (a++b)=aT (aT rs a) b
 |[],_,_=>rfl
 |r::a,rs,b=>bT a (if r∈rs then rs else rs++[r]) b
theorem eP:∀(t rs:List Rd)(x:Rd),x∈aT rs t↔x∈rs∨x∈t
 |[],rs,x=>by simp[aT]
 |
  r::t,rs,x=>by
  unfold aT
  rw[eP t]
  by_cases h:r∈rs
  ·rw[aA h,eN]
   exact⟨fun h=>h.imp id Or.inr,fun h'=>h'.elim Or.inl fun h'=>h'.elim (fun e=>Or.inl (e▸h)) Or.inr⟩
  ·rw[aB h,eN,j5,lC,or_assoc]
theorem gR:∀(t rs:List Rd),(∀r∈t,r∈rs)→aT rs t=rs
 |[],_,_=>rfl
 |
  r::t,rs,h=>by
  unfold aT
  rw[aA (h r (dx ..))]
  exact gR t rs fun x hx=>h x (dH _ hx)
def SJ(se:SM)(rs:List Rd):Prop:=∀r,aO bN .bool r se=true↔r∈rs
theorem fL:∀(n:List Rd)(se:SM)(acc:List Rd)(s':SM)(a':List Rd),eT n se acc=some (s',a')→SJ se acc→a'=aT acc n∧SJ s' a'
 |
  [],se,acc,s',a',h,hs=>by
  cases h
  exact⟨rfl,hs⟩
 |
  r::n,se,acc,s',a',h,hs=>by
  unfold eT at h
  unfold aT
  split at h
  ·rename_i hm
   rw[aA ((hs r).1 hm)]
   exact fL n se acc s' a' h hs
  ·rename_i hm
   rw[aB fun hr=>hm ((hs r).2 hr)]
   split at h
   ·split at h
    ·refine fL n _ _ s' a' h fun x=>?_
     rw[j5,lC]
     by_cases e:x=r
     ·subst e
      rw[dj (kt:=bN) (vt:=.bool) rfl]
      exact⟨fun _=>Or.inr rfl,fun _=>rfl⟩
     ·rw[cT (kt:=bN) (vt:=.bool) rfl e,hs x]
      exact⟨Or.inl,fun h=>h.elim id fun h=>absurd h e⟩
    ·cases h
   ·cases h
def w0(s:bF):aV:=((s,([],())),([],()))
def gp(s:bF)(u:Ru)(l:List In):Bool:=match fE u (w0 s) none 0 0 false none () l [] [] [] with
 |some r=>r.1
 |none=>false
def cK(s:bF)(u:Ru)(p:Int)(l:List In):In:=match fD u p l (w0 s) none 0 0 false none () [] [] [] with
 |some r=>r.2.2.2.2.2.2.2.2.2.2
 |none=>(0,(0,(0,([],()))))
def bQ(u:Ru)(p:Int)(l:List In):Int:=
 if(nth bG u.2.2.1 (l.length:Int)).2.2.2.1.2.2.1= -1 then p else nth (.int .i64) (nth bS l (nth bG u.2.2.1 (l.length:Int)).2.2.2.1.2.2.1).2.2.2.1 (nth bG u.2.2.1 (l.length:Int)).2.2.2.1.2.2.2.1
def dg(look:Pl→Qy Rs)(ch:List In→Qy (Bool×List In))(a o:Int)(l:List In):Nat→Nat→Qy (Bool×List In)
 |0,_=>.ret (false,l)
 |n+1,c=>(look (a,(o,((c:Int),())))).bind fun x=>if x.2.2.2.1=true then(ch (l++[x.1])).bind fun y=>if y.1=true then .ret y else dg look ch a o l n (c+1) else dg look ch a o l n (c+1)
def bC(m:DM)(a:Int):Nat:=if aO (.int .i64) .bool a (bA m)=true then 1 else 4
def aW(look:Pl→Qy Rs)(s:bF)(m:DM)(u:Ru)(p:Int):Nat→List In→Qy (Bool×List In)
 |0,l=>.ret (gp s u l,l)
 |n+1,l=>dg look (aW look s m u p n) (nth bG u.2.2.1 (l.length:Int)).2.2.1 (bQ u p l) l (bC m (nth bG u.2.2.1 (l.length:Int)).2.2.1) 0
def zR:Rs:=((0,(0,(0,([],())))),(0,([],(false,()))))
def cM(ch:Ru→Qy (Bool×List In))(bd:Ru→List In→In)(R:List Ru)(a:Int):Nat→Nat→Qy Rs
 |0,_=>.ret zR
 |n+1,c=>if(nth bX R (c:Int)).2.1=a then(ch (nth bX R (c:Int))).bind fun y=>if y.1=true then .ret (bd (nth bX R (c:Int)) y.2,((c:Int),(y.2,(true,())))) else cM ch bd R a n (c+1) else cM ch bd R a n (c+1)
def dt(s:bF)(m:DM)(look:Pl→Qy Rs)(p:Pl):Qy Rs:=
 if aO (.int .i64) .bool p.1 (bA m)=true then cM (fun u=>aW look s m u p.2.1 u.2.2.1.length []) (fun u l=>cK s u p.2.1 l) s.2.2.2.1 p.1 s.2.2.2.1.length 0 else .ask p fun b x=>.ret (x,(0,([],(b,()))))
def jK(s:bF)(m:DM):Nat→Pl→Qy Rs
 |0,_=>.ret zR
 |n+1,p=>dt s m (jK s m n) p
theorem fb{k1 k2:Pl→Qy Rs}{ch1 ch2:List In→Qy (Bool×List In)}{a:Int}{l:List In}(h:∀y,k1 (a,y)=k2 (a,y))(hc:∀x,ch1 (l++[x])=ch2 (l++[x]))(o:Int):∀n c,dg k1 ch1 a o l n c=dg k2 ch2 a o l n c
 |0,_=>rfl
 |
  n+1,c=>by
  unfold dg
  rw[h,fb h hc o n]
  simp only[hc]
theorem eH{k1 k2:Pl→Qy Rs}{s:bF}{m:DM}{u:Ru}(h:∀v∈u.2.2.1,∀y,k1 (v.2.2.1,y)=k2 (v.2.2.1,y))(p:Int):∀n l,l.length+n=u.2.2.1.length→aW k1 s m u p n l=aW k2 s m u p n l
 |0,_,_=>rfl
 |n+1,l,hl=>fb (h _ (bE (t:=bG) (l:=u.2.2.1) (cu l.length) (by omega))) (fun x=>eH h p n (l++[x]) (by rw[cz,bD];omega)) _ _ _
theorem fc{c1 c2:Ru→Qy (Bool×List In)}{bd:Ru→List In→In}{R:List Ru}{a:Int}(h:∀u∈R,u.2.1=a→c1 u=c2 u):∀n c,c+n≤R.length→cM c1 bd R a n c=cM c2 bd R a n c
 |0,_,_=>rfl
 |
  n+1,c,hc=>by
  unfold cM
  rw[fc h n (c+1) (by omega)]
  split
  ·rename_i hu
   rw[h _ (bE (t:=bX) (l:=R) (cu c) (by omega)) hu]
  ·rfl
theorem gi{k1 k2:Pl→Qy Rs}{s:bF}{m:DM}{p:Pl}(h:∀u∈s.2.2.2.1,u.2.1=p.1→∀v∈u.2.2.1,∀y,k1 (v.2.2.1,y)=k2 (v.2.2.1,y)):dt s m k1 p=dt s m k2 p:=by
 unfold dt
 rw[fc (fun u hu e=>eH (h u hu e) p.2.1 _ [] (ek _)) _ 0 (by omega)]
theorem fe{s:bF}{lo:Zd}(hr:∀u∈s.2.2.2.1,∀v∈u.2.2.1,lo.idxOf v.2.2.1<lo.idxOf u.2.1)(m:DM):∀n n' p,lo.idxOf p.1<n→lo.idxOf p.1<n'→jK s m n p=jK s m n' p
 |
  n+1,n'+1,p,h,h'=>gi fun u hu e v hv y=>by
  have:=hr u hu v hv
  rw[e] at this
  exact fe hr m n n' _ (show lo.idxOf v.2.2.1<n by omega) (show lo.idxOf v.2.2.1<n' by omega)
def LQ(s:bF)(m:DM)(lo:Zd)(p:Pl):Qy Rs:=jK s m (lo.idxOf p.1+1) p
theorem lG{s:bF}{lo:Zd}(hr:∀u∈s.2.2.2.1,∀v∈u.2.2.1,lo.idxOf v.2.2.1<lo.idxOf u.2.1)(m:DM)(p:Pl):LQ s m lo p=dt s m (LQ s m lo) p:=by
 show dt s m (jK s m (lo.idxOf p.1)) p=_
 refine gi fun u hu e v hv y=>?_
 have:=hr u hu v hv
 rw[e] at this
 exact fe hr m _ _ _ this (Nat.lt_succ_self _)
structure MY(w:aV)(PS:Zd)(U:List Pl)(ix:Ix)(d k:Int)(O:Pl→An):Prop where
 wy:WY w PS U ix
 ra:∀p:Pl,p.2.1∈PS→mU (w.1,(cY w.1.1 ix p,())) p.1 p.2.1 p.2.2.1 d k=some (O p)
structure MX(w:aV)(lo PS:Zd)(U:List Pl)(ix:Ix)(m:DM)(d k:Int)(O:Pl→An)(L:Pl→Qy Rs):Prop where
 wx:WX w lo PS U ix
 my:MY w PS U ix d k O
 fix:∀p,L p=dt w.1.1 m L p
variable{w:aV} {lo PS:Zd} {U:List Pl} {ix:Ix} {m:DM} {d k:Int} {O:Pl→An} {L:Pl→Qy Rs}
def FG(r:Rs):Prop:=r.2.2.1.length≤3∧∀y∈r.2.2.1,y.2.2.2.1.length≤1000
theorem FG.zero:FG zR:=⟨cX _,fun y hy=>(by cases hy)⟩
structure MI(s:bF)(PS:Zd)(U:List Pl)(O:Pl→An)(L:Pl→Qy Rs)(fo:FM)(se:SM)(rs:List Rd):Prop where
 fi:FI s PS U fo se rs
 vl:∀e∈fo,e.2=((L e.1).run O).1∧(∀r∈((L e.1).run O).2,r∈rs)∧FG ((L e.1).run O).1
 si:SJ se rs
theorem MI.nil(s:bF)(PS:Zd)(U:List Pl)(O:Pl→An)(L:Pl→Qy Rs):MI s PS U O L [] [] []:=⟨FI.nil s PS U,fun e he=>(by cases he),fun r=>⟨fun h=>(by cases h),fun h=>(by cases h)⟩⟩
theorem MI.put{s:bF}{fo:FM}{se se':SM}{rs:List Rd}(h:MI s PS U O L fo se rs){p:Pl}(hf:FI s PS U (bK aR p ((L p).run O).1 fo) se' (aT rs ((L p).run O).2))(hs:SJ se' (aT rs ((L p).run O).2))(hg:FG ((L p).run O).1):MI s PS U O L (bK aR p ((L p).run O).1 fo) se' (aT rs ((L p).run O).2) where
 fi:=hf
 vl e he:=by
  rcases dC (kt:=aR) he with rfl|he
  ·exact⟨rfl,fun r hr=>(eP ..).2 (Or.inr hr),hg⟩
  ·exact⟨(h.vl e he).1,fun r hr=>(eP ..).2 (Or.inl ((h.vl e he).2.1 r hr)),(h.vl e he).2.2⟩
 si:=hs
def LP(w:aV)(PS:Zd)(U:List Pl)(ix:Ix)(m:DM)(d k:Int)(O:Pl→An)(L:Pl→Qy Rs)(b:Bool)(z:Unit)(p:Pl)(rs:List Rd)(r:aV×Ix×Int×Int×Bool×DM×Unit×FM×SM×Rs×List Rd):Prop:=
 ∃fo se,r=(w,ix,d,k,b,m,z,fo,se,((L p).run O).1,aT rs ((L p).run O).2)∧MI w.1.1 PS U O L fo se (aT rs ((L p).run O).2)∧(((L p).run O).1.2.2.2.1=true→FV w.1.1 PS ((L p).run O).1.1 p.1)∧FG ((L p).run O).1
theorem rW(X:MY w PS U ix d k O)(q0:Q0)(q1:Q1)(p:Pl)(hf:L p=dt w.1.1 m L p)(b:Bool)(z:Unit){fo:FM}{se:SM}{rs:List Rd}(h:MI w.1.1 PS U O L fo se rs)(hU:p∈U)(hP:p.2.1∈PS)
 (hd:aO (.int .i64) .bool p.1 (bA m)=true→W (lA q0 q1 p w ix d k b m z fo se rs) (LP w PS U ix m d k O L b z p rs)):W (js q0 q1 p w ix d k b m z fo se rs) (LP w PS U ix m d k O L b z p rs):=by
 have hB:=hB
 unfold js
 cases hp:ep aR p fo with
 |
  true=>
  rw[aA rfl]
  obtain⟨i,hi⟩:=ow (kt:=aR) (vt:=fA) rfl hp
  have he:=n8 hi
  obtain⟨v1,v2,v3⟩:=h.vl _ he
  have v1:aO aR fA p fo=((L p).run O).1:=v1
  have hx:=h.fi.ok _ he
  rw[v1] at hx ⊢
  have e:=gR _ _ v2
  exact⟨_,rfl,fo,se,by rw[e],by rw[e];exact h,hx,v3⟩
 |
  false=>
  rw[aB (by decide)]
  cases hder:aO (.int .i64) .bool p.1 (bA m) with
  |
   true=>
   rw[aA rfl]
   refine aZ.2 (kK.2 ((hd hder).mono fun r hr=>?_))
   obtain⟨fo',se',rfl,h',hx,hg3⟩:=hr
   refine⟨_,rfl,?_⟩
   rw[kJ]
   dsimp only
   have hl:=h'.fi.len
   have hl2:=X.wy.len
   have hg:fo'.length≤(bK aR p ((L p).run O).1 fo').length:=ll (kt:=aR)
   have h1:=h'.fi.se
   have h2:=h'.fi.rs
   have e:=gR _ _ fun r hr=>(eP ((L p).run O).2 rs r).2 (Or.inr hr)
   rw[aA (show fo'.length+1≤aF by omega)]
   refine⟨_,rfl,_,_,rfl,?_,hx,hg3⟩
   have h3:MI w.1.1 PS U O L (bK aR p ((L p).run O).1 fo') se' (aT (aT rs ((L p).run O).2) ((L p).run O).2):=h'.put (by rw[e];exact h'.fi.put hU hx (by omega) (by omega)) (by rw[e];exact h'.si) hg3
   rw[e] at h3
   exact h3
  |
   false=>
   rw[aB (by decide)]
   obtain⟨M,y,x,n,se',rs',e1,e2,e3,hl,hr⟩:=rU X.wy p d k b m z h.fi hp hU hP
   have e1':=lq X.wy p d k b m z fo se rs
   rw[e1'] at e1
   have eL:cY w.1.1 ix p=M:=by
    have e:=fP e1
    simp only[jb,true_and,nc] at e
    exact e
   subst eL
   have eO:O p=(y,x,n):=fP ((X.ra p hP).symm.trans e2)
   have eq:(L p).run O=((x,(0,([],(y,())))),n):=by
    rw[hf]
    unfold dt
    rw[hder,aB (by decide)]
    unfold Qy.run
    rw[eO]
    unfold Qy.run
    rw[cw]
   have e4:lb n=some n:=rfl
   obtain⟨fo2,se2,x2,rs2,er,h',hx⟩:=hr
   cases er
   have hfr:eT n se rs=some (se',rs'):=by
    unfold gq at e3
    split at e3
    ·cases hq:eT n se rs with
     |none=>rw[hq] at e3;cases e3
     |some q=>rw[hq] at e3;cases e3;rfl
    ·cases e3
   obtain⟨s1,s2⟩:=fL n se rs se' rs' hfr h.si
   subst s1
   rw[e1',aD]
   dsimp only
   rw[dW,dW,dW,dW,e2,aD]
   dsimp only
   rw[e4,aD,e3,aD,aC]
   dsimp only
   rw[aA hl]
   have hg3:FG ((L p).run O).1:=by rw[eq];exact⟨cX _,fun y hy=>(by cases hy)⟩
   refine⟨_,rfl,_,_,by rw[eq],?_,by rw[eq];exact hx,hg3⟩
   have h3:MI w.1.1 PS U O L (bK aR p ((L p).run O).1 fo) se' (aT rs ((L p).run O).2):=h.put (by rw[eq];exact h') (by rw[eq];exact s2) hg3
   rw[eq] at h3 ⊢
   exact h3
theorem nw{u:Ru}{l:List In}(hN:NB w.1.1)(hw:u.2.2.2.1.length≤aF)(hR:RK (cR w.1.1 u))(hL:LI w.1.1 PS u l)(hl:l.length=u.2.2.1.length)(ix:Ix)(d k:Int)(b:Bool)(m:DM)(z:Unit)(fo:FM)(se:SM)(rs:List Rd):
 fE u w ix d k b m z l fo se rs=some (gp w.1.1 u l,w,ix,d,k,b,m,z,l,fo,se,rs):=by
 obtain⟨y,hy⟩:=ue hN hw hR hL hl
 have e:gp w.1.1 u l=y:=by unfold gp;rw[hy (w0 w.1.1) rfl none 0 0 false none () [] [] []]
 rw[e]
 exact hy w rfl ix d k b m z fo se rs
theorem lV{u:Ru}{l:List In}(hw:u.2.2.2.2.1.length≤aF)(hR:RK (cR w.1.1 u))(hL:LI w.1.1 PS u l)(hl:l.length=u.2.2.1.length)(hf:1≤(aP w.1.1 u.2.1).length)(hf2:(aP w.1.1 u.2.1).length≤1000)(p:Int)(hp:p∈PS)(h0:(0:Int)∈PS)(hc:∀t∈u.2.2.2.2.1,t.2.2.1.2.2.2.2.1∈PS):
 FV w.1.1 PS (cK w.1.1 u p l) u.2.1∧∀ix d k b m z fo se rs,fD u p l w ix d k b m z fo se rs=some (w,ix,d,k,b,m,z,fo,se,rs,cK w.1.1 u p l):=by
 obtain⟨x,hx,hy⟩:=qh hw hR hL hl hf hf2 p hp h0 hc
 have e:cK w.1.1 u p l=x:=by unfold cK;rw[hy (w0 w.1.1) rfl none 0 0 false none () [] [] []]
 rw[e]
 exact⟨hx,hy w rfl⟩
def CQ(w:aV)(PS:Zd)(U:List Pl)(ix:Ix)(m:DM)(d k:Int)(O:Pl→An)(L:Pl→Qy Rs)(b:Bool)(z:Unit)(u:Ru)(p:Int)(l:List In)(y:(Bool×List In)×List Rd)(rs:List Rd)(r:Bool×Ru×Int×aV×Ix×Int×Int×Bool×DM×Unit×FM×SM×List In×List Rd):Prop:=
 ∃fo se,r=(y.1.1,u,p,w,ix,d,k,b,m,z,fo,se,y.1.2,aT rs y.2)∧MI w.1.1 PS U O L fo se (aT rs y.2)∧(y.1.1=false→y.1.2=l)∧(y.1.1=true→LI w.1.1 PS u y.1.2∧y.1.2.length=u.2.2.1.length)
theorem qm(X:MX w lo PS U ix m d k O L)(q0:Q0)(q1:Q1)(p:Pl)(b:Bool)(z:Unit){fo:FM}{se:SM}{rs:List Rd}(h:MI w.1.1 PS U O L fo se rs)(hP:p.2.1∈PS)(hm:aO (.int .i64) .bool p.1 (bA m)=true)
 (hq:∀u∈w.1.1.2.2.2.1,u.2.1=p.1→∀fo se rs,MI w.1.1 PS U O L fo se rs→W (q1 (u,p.2.1,[],w,ix,d,k,b,m,z,fo,se,rs,())) (CQ w PS U ix m d k O L b z u p.2.1 [] ((aW L w.1.1 m u p.2.1 u.2.2.1.length []).run O) rs)):
 W (lA q0 q1 p w ix d k b m z fo se rs) (LP w PS U ix m d k O L b z p rs):=by
 have hB:=hB
 have hr:=X.wx.cg.sw.rules
 let Z:Nat→Rs×List Rd:=fun c=>(cM (fun u=>aW L w.1.1 m u p.2.1 u.2.2.1.length []) (fun u l=>cK w.1.1 u p.2.1 l) w.1.1.2.2.2.1 p.1 (w.1.1.2.2.2.1.length -c) c).run O
 have eZ:(L p).run O=Z 0:=by rw[X.fix p];unfold dt;rw[aA hm];rfl
 unfold lA
 refine aZ.2 (W.ct (B:=fun r=>(Z 0).1=zR∧∃fo' se',r=(w,ix,d,k,b,m,z,fo',se',(0:Int),(0:Int),(0:Int),(0:Int),false,aT rs (Z 0).2)∧MI w.1.1 PS U O L fo' se' (aT rs (Z 0).2)) (Q:=LP w PS U ix m d k O L b z p rs) ?_ (fun r hr=>?_) fun r hr=>hr)
 ·refine W.mono (gu (L:=pd q0 q1) rfl (fun c(s:FM×SM×List Rd)(r:dN _ _)=>CT (fun r=>(Z c).1=zR∧∃fo' se',r=(w,ix,d,k,b,m,z,fo',se',(0:Int),(0:Int),(0:Int),(0:Int),false,aT s.2.2 (Z c).2)∧MI w.1.1 PS U O L fo' se' (aT s.2.2 (Z c).2)) (fun r=>∃fo' se',r=(w,ix,d,k,b,m,z,fo',se',(Z c).1,aT s.2.2 (Z c).2)∧MI w.1.1 PS U O L fo' se' (aT s.2.2 (Z c).2)∧FV w.1.1 PS (Z c).1.1 p.1∧FG (Z c).1) r) w.1.1.2.2.2.1.length (fun c(s:FM×SM×List Rd)=>(w.1.1.2.2.2.1,(w.1.1.2.2.2.1.length:Int),(c:Int),w,ix,d,k,b,m,z,s.1,s.2.1,p,(0:Int),(0:Int),(0:Int),(0:Int),false,s.2.2)) (fun _ s=>MI w.1.1 PS U O L s.1 s.2.1 s.2.2) ?step ?stop _ 0 (fo,se,rs) (by omega) (by omega) h) fun r hr=> ?fin
  case fin=>
   refine CT.mono (fun _ h=>h) (fun r h=>?_) r hr
   obtain⟨fo',se',rfl,h',hx,hg⟩:=h
   unfold LP
   rw[eZ]
   exact⟨fo',se',rfl,h',fun _=>hx,hg⟩
  case step=>
   rintro rec c ⟨fo,se,rs⟩ hc hI kk
   dsimp only at hI ⊢
   have hw2:=fF c (by omega)
   have hc1:(c:Int)<(w.1.1.2.2.2.1.length:Int):=by omega
   have hmm:=bE (t:=bX) (l:=w.1.1.2.2.2.1) (cu c) hc1
   rw[cq hc1,dK c,aA hc1]
   have eq:Z c=(if(nth bX w.1.1.2.2.2.1 (c:Int)).2.1=p.1 then(aW L w.1.1 m (nth bX w.1.1.2.2.2.1 (c:Int)) p.2.1 (nth bX w.1.1.2.2.2.1 (c:Int)).2.2.1.length []).bind fun y=>if y.1=true then .ret (cK w.1.1 (nth bX w.1.1.2.2.2.1 (c:Int)) p.2.1 y.2,((c:Int),(y.2,(true,())))) else cM (fun u=>aW L w.1.1 m u p.2.1 u.2.2.1.length []) (fun u l=>cK w.1.1 u p.2.1 l) w.1.1.2.2.2.1 p.1 (w.1.1.2.2.2.1.length -(c+1)) (c+1) else cM (fun u=>aW L w.1.1 m u p.2.1 u.2.2.1.length []) (fun u l=>cK w.1.1 u p.2.1 l) w.1.1.2.2.2.1 p.1 (w.1.1.2.2.2.1.length -(c+1)) (c+1):Qy Rs).run O:=by
    show(cM _ _ _ _ _ _).run O=_
    rw[show w.1.1.2.2.2.1.length -c=(w.1.1.2.2.2.1.length -(c+1))+1 by omega]
    rfl
   rw[eq]
   generalize nth bX w.1.1.2.2.2.1 (c:Int)=u at hmm ⊢
   by_cases hu:u.2.1=p.1
   ·rw[aB (show¬(!decide (u.2.1=p.1))=true by simp[hu]),aA hu,Qy.run_bind]
    obtain⟨r,er,fo',se',rfl,h',y0,y1⟩:=hq u hmm hu fo se rs hI
    have ea:mf q0 q1 u p.2.1 w ix d k b m z fo se rs=(if(!((aW L w.1.1 m u p.2.1 u.2.2.1.length []).run O).1.1)=true then(some (false,w,ix,d,k,b,m,z,fo',se',([]:List In),aT rs ((aW L w.1.1 m u p.2.1 u.2.2.1.length []).run O).2)) else(some (true,w,ix,d,k,b,m,z,fo',se',((aW L w.1.1 m u p.2.1 u.2.2.1.length []).run O).1.2,aT rs ((aW L w.1.1 m u p.2.1 u.2.2.1.length []).run O).2))):=by
     unfold mf;rw[er];rfl
    rw[ea]
    generalize (aW L w.1.1 m u p.2.1 u.2.2.1.length []).run O=y at h' y0 y1 ⊢
    obtain⟨⟨y,l⟩,t⟩:=y
    dsimp only at h' y0 y1 ⊢
    cases y with
    |
     false=>
     rw[aA (show(!false)=true from rfl),aD]
     dsimp only
     rw[aB (by decide),aB (by decide),hw2,bT]
     exact kk (fo',se',aT rs t) h'
    |
     true=>
     obtain⟨hLI,hlen⟩:=y1 rfl
     have hR:=X.wx.cg.tg.rules u hmm
     have hf:=X.wx.cg.tg.fields _ (bE (t:=aU) (l:=w.1.1.2.2.1) hR.h0 hR.h1)
     have hs:=(X.wx.cg.sw.rl u hmm).2.2
     obtain⟨hx,hbu⟩:=lV (w:=w) (by omega) hR hLI hlen hf (X.wx.fl _ hR.h0 hR.h1) p.2.1 hP X.wx.zero (X.wx.consts u hmm)
     rw[aB (show¬(!true)=true by decide),aD]
     dsimp only
     rw[aA rfl,aA rfl,hbu ix d k b m z fo' se',aD]
     unfold Qy.run
     rw[cw]
     refine⟨_,rfl,fo',se',rfl,h',hu▸hx,?_,fun y hy=>?_⟩
     ·show l.length≤3
      rw[hlen];exact hR.n3
     ·obtain⟨j,hj,rfl⟩:=iG hy
      have hj2:j<l.length:=hj
      have hF:FO (cR w.1.1 u) j:=hR.fo j (show j<u.2.2.1.length by omega)
      have:=(hLI.ok (j:Int) (cu j) (by omega)).1
      rw[cJ (t:=bS) hj2] at this
      rw[this]
      exact X.wx.fl _ hF.s0 hF.s1
   ·rw[aA (show(!decide (u.2.1=p.1))=true by simp[hu]),aB hu,hw2]
    exact kk (fo,se,rs) hI
  case stop=>
   rintro rec ⟨fo,se,rs⟩ hI
   dsimp only at hI ⊢
   rw[eF (by omega)]
   have e:Z w.1.1.2.2.2.1.length=(zR,[]):=by
    show(cM _ _ _ _ (w.1.1.2.2.2.1.length -w.1.1.2.2.2.1.length) _).run O=_
    rw[Nat.sub_self];rfl
   rw[e]
   exact⟨_,rfl,rfl,fo,se,rfl,hI⟩
 ·obtain⟨e0,fo',se',rfl,h'⟩:=hr
  unfold LP
  rw[eZ,e0]
  exact⟨_,rfl,fo',se',rfl,h',fun h=>(by cases h),FG.zero⟩
variable{w:aV} {lo PS:Zd} {U:List Pl} {ix:Ix} {m:DM} {d k:Int} {O:Pl→An} {L:Pl→Qy Rs}
abbrev CH:Ru×Int×aV×Ix×Int×Int×Bool×DM×Unit×FM×SM×(List In)×(List Rd)→Option (Bool×Ru×Int×aV×Ix×Int×Int×Bool×DM×Unit×FM×SM×List In×List Rd):=fun x=>some (false,x.1,x.2.1,x.2.2.1,x.2.2.2.1,x.2.2.2.2.1,x.2.2.2.2.2.1,x.2.2.2.2.2.2.1,x.2.2.2.2.2.2.2.1,x.2.2.2.2.2.2.2.2.1,x.2.2.2.2.2.2.2.2.2.1,x.2.2.2.2.2.2.2.2.2.2.1,x.2.2.2.2.2.2.2.2.2.2.2.1,x.2.2.2.2.2.2.2.2.2.2.2.2)
theorem qn(q0:Q0)(q1:Q1)(u:Ru)(p:Int)(l:List In)(b:Bool)(z:Unit)(fo:FM)(se:SM)(rs:List Rd)(hlt:l.length<u.2.2.1.length)
 (ho:(nth bG u.2.2.1 (l.length:Int)).2.2.2.1.2.2.1= -1∨(0≤(nth bG u.2.2.1 (l.length:Int)).2.2.2.1.2.2.1∧(nth bG u.2.2.1 (l.length:Int)).2.2.2.1.2.2.1<(l.length:Int)∧0≤(nth bG u.2.2.1 (l.length:Int)).2.2.2.1.2.2.2.1∧(nth bG u.2.2.1 (l.length:Int)).2.2.2.1.2.2.2.1<((nth bS l (nth bG u.2.2.1 (l.length:Int)).2.2.2.1.2.2.1).2.2.2.1.length:Int))):
 fU q0 q1 u p l w ix d k b m z fo se rs=aG (U:=Ru×Int×aV×Ix×Int×Int×Bool×DM×Unit×FM×SM×(List In)×(List Rd)) (im q0 q1 (Int.toNat ((bC m (nth bG u.2.2.1 (l.length:Int)).2.2.1:Nat):Int)+1) (bQ u p l,((bC m (nth bG u.2.2.1 (l.length:Int)).2.2.1:Nat):Int),(0:Int),u,p,w,ix,d,k,b,m,z,fo,se,nth bG u.2.2.1 (l.length:Int),l,rs)) CH:=by
 unfold fU bQ bC
 rw[aB (show¬decide ((l.length:Int)=(u.2.2.1.length:Int))=true by simp;omega),dK _,aA (show(l.length:Int)<(u.2.2.1.length:Int) by omega)]
 generalize nth bG u.2.2.1 (l.length:Int)=v at ho
 by_cases hv:v.2.2.2.1.2.2.1= -1
 ·rw[aB (show¬(!decide (v.2.2.2.1.2.2.1=(-1:Int)))=true by simp[hv]),aC,aA hv]
  dsimp only
  by_cases hm:aO (.int .i64) .bool v.2.2.1 (bA m)=true
  ·rw[aA hm,aA hm,aC];rfl
  ·rw[aB hm,aB hm,aC];rfl
 ·obtain⟨a1,a2,a3,a4⟩:=ho.resolve_left hv
  rw[aA (show(!decide (v.2.2.2.1.2.2.1=(-1:Int)))=true by simpa using hv),aA a1,aA a2,aA a3,aA a4,aC,aB hv]
  dsimp only
  by_cases hm:aO (.int .i64) .bool v.2.2.1 (bA m)=true
  ·rw[aA hm,aA hm,aC];rfl
  ·rw[aB hm,aB hm,aC];rfl
theorem qo(X:MX w lo PS U ix m d k O L)(q0:Q0)(q1:Q1)(u:Ru)(hu:u∈w.1.1.2.2.2.1)(p:Int)(l:List In)(b:Bool)(z:Unit){fo:FM}{se:SM}{rs:List Rd}(h:MI w.1.1 PS U O L fo se rs)(hP:p∈PS)(hL:LI w.1.1 PS u l)
 (hq0:∀y:Pl,y∈U→y.2.1∈PS→l.length<u.2.2.1.length→y.1=(nth bG u.2.2.1 (l.length:Int)).2.2.1→∀fo se rs,MI w.1.1 PS U O L fo se rs→W (q0 (y,w,ix,d,k,b,m,z,fo,se,rs,())) (LP w PS U ix m d k O L b z y rs))
 (hq1:∀l',LI w.1.1 PS u l'→l'.length=l.length+1→∀fo se rs,MI w.1.1 PS U O L fo se rs→W (q1 (u,p,l',w,ix,d,k,b,m,z,fo,se,rs,())) (CQ w PS U ix m d k O L b z u p l' ((aW L w.1.1 m u p (u.2.2.1.length -l'.length) l').run O) rs)):
 W (fU q0 q1 u p l w ix d k b m z fo se rs) (CQ w PS U ix m d k O L b z u p l ((aW L w.1.1 m u p (u.2.2.1.length -l.length) l).run O) rs):=by
 have hB:=hB
 have hR:RK (cR w.1.1 u):=X.wx.cg.tg.rules u hu
 by_cases hl:l.length=u.2.2.1.length
 ·have hdl:decide ((l.length:Int)=(u.2.2.1.length:Int))=true:=bR (by omega)
  rw[show u.2.2.1.length -l.length=0 by omega]
  refine⟨(gp w.1.1 u l,u,p,w,ix,d,k,b,m,z,fo,se,l,rs),?_,fo,se,rfl,h,fun _=>rfl,fun _=>⟨hL,hl⟩⟩
  unfold fU
  rw[aA hdl,nw X.wx.cg.sw.nb (X.wx.cg.sw.rl u hu).2.1 hR hL hl];rfl
 ·have hll:=hL.len
  have hlt:l.length<u.2.2.1.length:=by omega
  have hn3:u.2.2.1.length≤3:=hR.n3
  have hF:FO (cR w.1.1 u) l.length:=hR.fo l.length hlt
  have hs0:0≤(nth bG u.2.2.1 (l.length:Int)).2.2.1:=hF.s0
  have hs1:(nth bG u.2.2.1 (l.length:Int)).2.2.1<(w.1.1.2.2.1.length:Int):=hF.s1
  have hpush:∀x:In,FV w.1.1 PS x (nth bG u.2.2.1 (l.length:Int)).2.2.1→LI w.1.1 PS u (l++[x]):=fun x hx=>hL.push hlt hx
  have ho:bQ u p l∈PS∧((nth bG u.2.2.1 (l.length:Int)).2.2.2.1.2.2.1= -1∨(0≤(nth bG u.2.2.1 (l.length:Int)).2.2.2.1.2.2.1∧(nth bG u.2.2.1 (l.length:Int)).2.2.2.1.2.2.1<(l.length:Int)∧0≤(nth bG u.2.2.1 (l.length:Int)).2.2.2.1.2.2.2.1∧(nth bG u.2.2.1 (l.length:Int)).2.2.2.1.2.2.2.1<((nth bS l (nth bG u.2.2.1 (l.length:Int)).2.2.2.1.2.2.1).2.2.2.1.length:Int))):=by
   unfold bQ
   by_cases apF:(nth bG u.2.2.1 (l.length:Int)).2.2.2.1.2.2.1= -1
   ·rw[aA apF];exact⟨hP,Or.inl apF⟩
   ·rcases hF.of with h1|h1
    ·exact absurd h1 apF
    ·obtain⟨a1,a2,a3,a4,a5⟩:=gI hL (fQ _) h1
     rw[aB apF]
     exact⟨a5,Or.inr ⟨a1,a2,a3,a4⟩⟩
  rw[qn q0 q1 u p l b z fo se rs hlt ho.2]
  obtain⟨ho,_⟩:=ho
  rw[show u.2.2.1.length -l.length=(u.2.2.1.length -(l.length+1))+1 by omega]
  unfold aW
  have hn4:bC m (nth bG u.2.2.1 (l.length:Int)).2.2.1≤4:=by unfold bC;split<;>omega
  have hch:∀x:In,LI w.1.1 PS u (l++[x])→∀fo se rs,MI w.1.1 PS U O L fo se rs→W (q1 (u,p,l++[x],w,ix,d,k,b,m,z,fo,se,rs,())) (CQ w PS U ix m d k O L b z u p (l++[x]) ((aW L w.1.1 m u p (u.2.2.1.length -(l.length+1)) (l++[x])).run O) rs):=fun x hx fo se rs hI=>by
   have:=hq1 (l++[x]) hx (by rw[cz,bD]) fo se rs hI
   rw[cz,bD] at this
   exact this
  generalize aW L w.1.1 m u p (u.2.2.1.length -(l.length+1))=ch at hch ⊢
  generalize bC m (nth bG u.2.2.1 (l.length:Int)).2.2.1=n at hn4 ⊢
  generalize bQ u p l=o at ho ⊢
  generalize nth bG u.2.2.1 (l.length:Int)=v at hs0 hs1 hpush hq0 ⊢
  let Y:Nat→(Bool×List In)×List Rd:=fun c=>(dg L ch v.2.2.1 o l (n -c) c).run O
  show W _ (CQ w PS U ix m d k O L b z u p l (Y 0) rs)
  refine aZ.2 (W.ct (W.mono (gu (L:=im q0 q1) rfl (fun c(s:FM×SM×List Rd)(r:dN _ _)=>CT (fun r=>(Y c).1=(false,l)∧∃fo' se',r=(u,p,w,ix,d,k,b,m,z,fo',se',l,aT s.2.2 (Y c).2)∧MI w.1.1 PS U O L fo' se' (aT s.2.2 (Y c).2)) (fun r=>(Y c).1.1=true∧∃fo' se',r=(true,u,p,w,ix,d,k,b,m,z,fo',se',(Y c).1.2,aT s.2.2 (Y c).2)∧MI w.1.1 PS U O L fo' se' (aT s.2.2 (Y c).2)∧LI w.1.1 PS u (Y c).1.2∧(Y c).1.2.length=u.2.2.1.length) r) n (fun c(s:FM×SM×List Rd)=>(o,(n:Int),(c:Int),u,p,w,ix,d,k,b,m,z,s.1,s.2.1,v,l,s.2.2)) (fun _ s=>MI w.1.1 PS U O L s.1 s.2.1 s.2.2) ?step ?stop (Int.toNat (n:Int)+1) 0 (fo,se,rs) (by omega) (by omega) h) fun r hr=>hr) (fun r hr=>?_) fun r hr=>?_)
  case step=>
   rintro rec c ⟨fo,se,rs⟩ hc hI kk
   dsimp only at hI ⊢
   have hw2:=fF c (by omega)
   have hcn:decide ((c:Int)<(n:Int))=true:=bR (by omega)
   have hl48:∀x:In,(l.length+List.length [x])*48≤aF:=fun x=>by rw[bD];omega
   have eY:Y c=((L (v.2.2.1,(o,((c:Int),())))).bind fun x=>if x.2.2.2.1=true then(ch (l++[x.1])).bind fun y=>if y.1=true then .ret y else dg L ch v.2.2.1 o l (n -(c+1)) (c+1) else dg L ch v.2.2.1 o l (n -(c+1)) (c+1):Qy (Bool×List In)).run O:=by
    show(dg _ _ _ _ _ _ _).run O=_
    rw[show n -c=(n -(c+1))+1 by omega]
    rfl
   rw[eY,Qy.run_bind,aA hcn]
   obtain⟨r,er,fo',se',rfl,h',hx,_⟩:=hq0 (v.2.2.1,(o,((c:Int),()))) (X.wx.pl _ _ _ hs0 hs1 ho (cu c) (by omega)) ho hlt rfl fo se rs hI
   rw[er,aD]
   dsimp only at h' hx ⊢
   generalize (L (v.2.2.1,(o,((c:Int),())))).run O=x at h' hx ⊢
   obtain⟨x,t⟩:=x
   dsimp only at h' hx ⊢
   cases hk:x.2.2.2.1 with
   |
    false=>
    rw[aB (by decide),aB (by decide),hw2,bT]
    exact kk (fo',se',aT rs t) h'
   |
    true=>
    rw[aA rfl,aA (hl48 x.1),aA rfl,Qy.run_bind]
    obtain⟨r,er2,fo2,se2,rfl,h2,y0,y1⟩:=hch x.1 (hpush x.1 (hx hk)) fo' se' (aT rs t) h'
    rw[er2,aD]
    generalize (ch (l++[x.1])).run O=y at h2 y0 y1 ⊢
    obtain⟨⟨y,l2⟩,t2⟩:=y
    dsimp only at h2 y0 y1 ⊢
    cases y with
    |
     true=>
     rw[aA rfl,aA rfl]
     unfold Qy.run
     rw[cw]
     rw[bT]
     exact⟨_,rfl,rfl,fo2,se2,rfl,h2,y1 rfl⟩
    |
     false=>
     have e:=y0 rfl
     subst e
     have e1:aQ (((l++[x.1]).length:Int) -(1:Int))=(l.length:Int):=by
      rw[cz,bD]
      rw[dR (by omega) (by omega)]
      omega
     have e3:(l.length:Int)≤((l++[x.1]).length:Int):=by rw[cz,bD];omega
     have ff:¬false=true:=by decide
     rw[aB ff,e1,dK _,aA e3,dV,Nat.sub_zero,List.take_left,hw2,aB ff,bT,bT]
     exact kk (fo2,se2,aT (aT rs t) t2) h2
  case stop=>
   rintro rec ⟨fo,se,rs⟩ hI
   dsimp only at hI ⊢
   rw[eF (by omega)]
   have e:Y n=((false,l),[]):=by
    show(dg _ _ _ _ _ (n -n) _).run O=_
    rw[Nat.sub_self];rfl
   rw[e]
   exact⟨_,rfl,rfl,fo,se,rfl,hI⟩
  ·obtain⟨e0,fo',se',rfl,h'⟩:=hr
   exact⟨_,rfl,fo',se',by rw[e0],h',fun _=>by rw[e0],fun h=>by rw[e0] at h;cases h⟩
  ·obtain⟨e0,fo',se',rfl,h',h2⟩:=hr
   exact⟨fo',se',by rw[e0],h',(fun h=>by rw[e0] at h;cases h),fun _=>h2⟩
theorem zU(X:MX w lo PS U ix m d k O L)(b:Bool)(z:Unit):∀n:Nat,
 (∀(p:Pl) fo se rs,MI w.1.1 PS U O L fo se rs→p∈U→p.2.1∈PS→5*(lo.idxOf p.1+1)≤n→W ((du n).1 (p,w,ix,d,k,b,m,z,fo,se,rs,())) (LP w PS U ix m d k O L b z p rs))∧
 (∀u∈w.1.1.2.2.2.1,∀(q:Int) l fo se rs,MI w.1.1 PS U O L fo se rs→q∈PS→LI w.1.1 PS u l→5*lo.idxOf u.2.1+(u.2.2.1.length -l.length)+1≤n→W ((du n).2 (u,q,l,w,ix,d,k,b,m,z,fo,se,rs,())) (CQ w PS U ix m d k O L b z u q l ((aW L w.1.1 m u q (u.2.2.1.length -l.length) l).run O) rs)):=by
 intro n
 induction n with
 |zero=>exact⟨fun p fo se rs _ _ _ h=>by omega,fun u _ q l fo se rs _ _ _ h=>by omega⟩
 |
  succ n ih=>
  refine⟨fun p fo se rs h hU hP hn=>?_,fun u hu q l fo se rs h hP hL hn=>?_⟩
  ·exact rW X.my (du n).1 (du n).2 p (X.fix p) b z h hU hP fun hm=>qm X _ _ p b z h hP hm fun u hu hup fo se rs h=>ih.2 u hu p.2.1 [] fo se rs h hP (LI.nil _ _ _) (by
    have hn3:u.2.2.1.length≤3:=(X.wx.cg.tg.rules u hu).n3
    rw[hup,fO]
    omega)
  ·exact qo X (du n).1 (du n).2 u hu q l b z h hP hL (fun y hy hyP hlt hy1 fo se rs h=>ih.1 y fo se rs h hy hyP (by
    have hpre:=X.wx.cg.rk.pre u hu _ (bE (t:=bG) (l:=u.2.2.1) (cu l.length) (show(l.length:Int)<(u.2.2.1.length:Int) by omega))
    rw[←hy1] at hpre
    omega)) fun l' hL' hl' fo se rs h=>ih.2 u hu q l' fo se rs h hP hL' (by
    have:=hL'.len
    omega)
theorem ny(X:MX w lo PS U ix m d k O L)(b:Bool)(z:Unit)(p:Pl){fo:FM}{se:SM}{rs:List Rd}(h:MI w.1.1 PS U O L fo se rs)(hU:p∈U)(hP:p.2.1∈PS):W (iD p w ix d k b m z fo se rs) (LP w PS U ix m d k O L b z p rs):=by
 have hl:=X.wx.cg.rk.len
 have hm:=X.wx.cg.tg.many
 have hi:lo.idxOf p.1≤lo.length:=List.idxOf_le_length
 exact(zU X b z dA).1 p fo se rs h hU hP (by show _≤18446744073709551616;omega)
theorem nz(X:MY w PS U ix d k O)(b:Bool)(z:Unit)(p:Pl)(hf:L p=dt w.1.1 m L p)(hm:¬aO (.int .i64) .bool p.1 (bA m)=true){fo:FM}{se:SM}{rs:List Rd}(h:MI w.1.1 PS U O L fo se rs)(hU:p∈U)(hP:p.2.1∈PS):W (iD p w ix d k b m z fo se rs) (LP w PS U ix m d k O L b z p rs):=by
 have key:∀n,W ((du (n+1)).1 (p,w,ix,d,k,b,m,z,fo,se,rs,())) (LP w PS U ix m d k O L b z p rs):=fun n=>rW X (du n).1 (du n).2 p hf b z h hU hP fun h=>absurd h hm
 exact key 18446744073709551615
theorem nA(X:MY w PS U ix d k O)(b:Bool)(z:Unit)(p:Pl){fo:FM}{se:SM}{rs:List Rd}(h:MI w.1.1 PS U O L fo se rs)(hU:p∈U)(hP:p.2.1∈PS)(ho:W (iD p w ix d k b m z fo se rs) (LP w PS U ix m d k O L b z p rs)):W (cF p w ix d k b m z fo se rs) (LP w PS U ix m d k O L b z p rs):=by
 suffices hW:∃r,cF p w ix d k b m z fo se rs=some r by
  obtain⟨r,er⟩:=hW
  obtain⟨r',er',hr⟩:=ho
  rw[yR er] at er'
  cases er'
  exact⟨r,er,hr⟩
 have ho:=ho.imp fun r h=>h.1
 unfold cF
 cases hp:ep aR p fo with
 |true=>rw[aA rfl];exact ho
 |
  false=>
  rw[aB (by decide)]
  split
  ·rw[EA];exact ho
  ·obtain⟨M,y,x,n,se',rs',e1,e2,e3,hl,_⟩:=rU X.wy p d k b m z h.fi hp hU hP
   have e4:lb n=some n:=rfl
   rw[e1,aD]
   dsimp only
   rw[e2,aD]
   dsimp only
   rw[e4,aD,e3,aD]
   dsimp only
   rw[aA hl]
   exact⟨_,rfl⟩
abbrev Ky:=hJ
abbrev Fa:=iL
abbrev cG(a p i:Int)(c:Nat):Ky:=(a,(p,(aQ ((aQ ((16:Int)*i))+(c:Int)),())))
abbrev dD(a p i d:Int)(c:Nat):Rd:=(cG a p i c,(d,(aQ (d+(1:Int)),())))
def sg(d:Int)(r:Rd):Rd:=(r.1,(d,(aQ (d+(1:Int)),())))
def kH(s:bF)(a:Int):Bool:=(KR s a).getD false
def iu(p i:Int):Bool:=(wa p i).getD false
def kI(s:bF)(a c x:Int):Bool:=(Ej s a c x).getD false
def zI:In:=(0,(0,(0,([],()))))
def d8(s:bF)(V:Ky→Int×Bool)(a p i d:Int):Nat→Nat→List Int→List Rd→An
 |0,_,t,rs=>(true,(a,(p,(i,(t,())))),rs)
 |n+1,c,t,rs=>if((V (cG a p i c)).2&&kI s a c (V (cG a p i c)).1)=true then d8 s V a p i d n (c+1) (t++[(V (cG a p i c)).1]) (rs++[dD a p i d c]) else(false,zI,rs++[dD a p i d c])
def eI(s:bF)(V:Ky→Int×Bool)(a p i d:Int):An:=
 if kH s a=true∧iu p i=true∧0≤d∧d<1024 then d8 s V a p i d ((aP s a).length -1) 1 [p] [] else(false,zI,[])
theorem gS{s:bF}{V:Ky→Int×Bool}{a p i d:Int}:∀(n c:Nat)(t:Zd)(rs:List Rd),(∀r∈rs,r∈(d8 s V a p i d n c t rs).2.2)∧∀r∈(d8 s V a p i d n c t rs).2.2,r∈rs∨∃e,c≤e∧e<c+n∧r=dD a p i d e
 |0,_,_,_=>⟨fun _ h=>h,fun _ h=>Or.inl h⟩
 |
  n+1,c,t,rs=>by
  unfold d8
  have hl:∀r∈rs++[dD a p i d c],r∈rs∨∃e,c≤e∧e<c+(n+1)∧r=dD a p i d e:=fun r hr=>(List.mem_append.1 hr).imp id fun h=>⟨c,cV _,by omega,List.mem_singleton.1 h⟩
  split
  ·obtain⟨h1,h2⟩:=gS (s:=s) (V:=V) (a:=a) (p:=p) (i:=i) (d:=d) n (c+1) (t++[(V (cG a p i c)).1]) (rs++[dD a p i d c])
   exact⟨fun r hr=>h1 r (iF _ hr),fun r hr=>(h2 r hr).elim (hl r) fun⟨e,e1,e2,e3⟩=>Or.inr ⟨e,by omega,by omega,e3⟩⟩
  ·exact⟨fun r hr=>iF _ hr,hl⟩
theorem jL{s:bF}{V V':Ky→Int×Bool}{a p i d d':Int}:∀(n c:Nat)(t:Zd)(rs:List Rd),(∀r∈(d8 s V a p i d n c t rs).2.2,V' r.1=V r.1)→d8 s V' a p i d' n c t (rs.map (sg d'))=((d8 s V a p i d n c t rs).1,(d8 s V a p i d n c t rs).2.1,(d8 s V a p i d n c t rs).2.2.map (sg d'))
 |0,_,_,_,_=>rfl
 |
  n+1,c,t,rs,h=>by
  have hm:dD a p i d c∈(d8 s V a p i d (n+1) c t rs).2.2:=by
   unfold d8
   split
   ·exact(gS n (c+1) _ _).1 _ (iX _ (List.mem_singleton.2 rfl))
   ·exact iX _ (List.mem_singleton.2 rfl)
  have e:V' (cG a p i c)=V (cG a p i c):=h _ hm
  have em:rs.map (sg d')++[dD a p i d' c]=(rs++[dD a p i d c]).map (sg d'):=by rw[qN];rfl
  unfold d8 at h ⊢
  rw[e,em]
  split
  ·rename_i hc
   rw[aA hc] at h
   exact jL n (c+1) _ _ h
  ·rfl
theorem mw{s:bF}{V:Ky→Int×Bool}{a p i d:Int}{r:Rd}(h:r∈(eI s V a p i d).2.2):(∃c,c<(aP s a).length∧r=dD a p i d c)∧kH s a=true∧iu p i=true∧0≤d∧d<1024:=by
 unfold eI at h
 split at h
 ·rename_i hc
  refine⟨?_,hc⟩
  rcases(gS _ _ _ _).2 r h with h|⟨e,e1,e2,e3⟩
  ·cases h
  ·exact⟨e,by omega,e3⟩
 ·cases h
theorem jd{s:bF}{V V':Ky→Int×Bool}{a p i d d':Int}(hd:0≤d∧d<1024↔0≤d'∧d'<1024)(h:∀r∈(eI s V a p i d).2.2,V' r.1=V r.1):eI s V' a p i d'=((eI s V a p i d).1,(eI s V a p i d).2.1,(eI s V a p i d).2.2.map (sg d')):=by
 unfold eI at h ⊢
 by_cases hc:kH s a=true∧iu p i=true∧0≤d∧d<1024
 ·rw[aA hc] at h ⊢
  rw[aA ⟨hc.1,hc.2.1,hd.1 hc.2.2⟩]
  exact jL _ _ _ [] h
 ·rw[aB hc,aB fun hc'=>hc ⟨hc'.1,hc'.2.1,hd.2 hc'.2.2⟩]
  rfl
theorem mz{s:bF}{V:Ky→Int×Bool}{a p i d:Int}:(eI s V a p i d).2.2.map (sg d)=(eI s V a p i d).2.2:=by
 have h:=jd (s:=s) (V:=V) (V':=V) (a:=a) (p:=p) (i:=i) Iff.rfl (d:=d) fun _ _=>rfl
 exact(congrArg (fun x:An=>x.2.2) h).symm
theorem lW(v:aV)(s:bF)(hN:NB s)(hl:v.2.1.length≤aF)(c:Nat)(a p i d k:Int)(rs:List Rd)(hr:(rs.length+1)*40≤aF):
 jq (c:Int) a p i d v k s rs=some ((fk v.2.1 (cG a p i c) d k).1,((fk v.2.1 (cG a p i c) d k).2&&kI s a c (fk v.2.1 (cG a p i c) d k).1),a,p,i,d,v,k,s,rs++[dD a p i d c]):=by
 have e:rX v.2.1 (a,(p,(aQ ((aQ ((16:Int)*i))+(c:Int)),()))) d k=some (fk v.2.1 (cG a p i c) d k):=aA hl
 unfold jq Pb
 rw[aD,aA (by rw[bD];exact hr),e,aD]
 generalize fk v.2.1 (cG a p i c) d k=r
 obtain⟨x,b⟩:=r
 dsimp only
 cases b with
 |false=>rfl
 |
  true=>
  obtain⟨q,hq⟩:=jQ s hN a (c:Int) x
  unfold kI
  rw[aA rfl,hq]
  rfl
theorem lr(p i:Int):wa p i=some (iu p i)∧(iu p i=true→0≤i∧i<4):=by
 have hs:∃z,wa p i=some z∧(z=true→0≤i∧i<4):=by
  unfold wa
  have no:∀y:Zm,y=some false→∃z,y=some z∧(z=true→0≤i∧i<4):=fun y hy=>⟨false,hy,fun h=>(by cases h)⟩
  by_cases i0:0≤i
  ·by_cases i1:i<4
   ·have yes:∀y:Zm,(∃z,y=some z)→∃z,y=some z∧(z=true→0≤i∧i<4):=fun y ⟨z,hz⟩=>⟨z,hz,fun _=>⟨i0,i1⟩⟩
    apply yes
    refine gK ?_ fun v=>⟨v,rfl⟩
    repeat' (first|exact⟨_,rfl⟩|split)
   ·rw[bR i0,cD i1]
    apply no
    split
    ·split<;>rfl
    ·rfl
  ·rw[cD i0]
   apply no
   split
   ·split<;>rfl
   ·rfl
 obtain⟨z,e,h⟩:=hs
 have e2:iu p i=z:=by unfold iu;rw[e];rfl
 rw[e2]
 exact⟨e,h⟩
theorem mQ(v:aV)(hN:NB v.1.1)(hR:v.1.1.2.2.2.1.length≤aF)(hF:∀a,0≤a→a<(v.1.1.2.2.1.length:Int)→(aP v.1.1 a).length≤1000)(hl:v.2.1.length≤aF)(a p i d k:Int):
 mU v a p i d k=some (eI v.1.1 (fun q=>fk v.2.1 q d k) a p i d):=by
 have hB:=hB
 suffices hW:W (mU v a p i d k) fun r=>r=eI v.1.1 (fun q=>fk v.2.1 q d k) a p i d by
  obtain⟨r,e,rfl⟩:=hW
  exact e
 obtain⟨b,e,hb⟩:=dP v.1.1 hR a
 have eb:kH v.1.1 a=b:=by unfold kH;rw[e];rfl
 obtain⟨hz,_⟩:=lr p i
 unfold mU eI
 rw[e,aD,eb]
 cases b with
 |false=>exact⟨_,rfl,(aB fun h=>(by cases h.1)).symm⟩
 |
  true=>
  obtain⟨a0,a1,a2⟩:=hb rfl
  rw[aB (by decide),hz,aD]
  cases iu p i with
  |false=>exact⟨_,rfl,(aB fun h=>(by cases h.2.1)).symm⟩
  |
   true=>
   rw[aB (by decide)]
   by_cases d0:d<0
   ·rw[cq d0];exact⟨_,rfl,(aB fun h=>by omega).symm⟩
   ·rw[aB (show¬decide (d<(0:Int))=true by simpa using d0)]
    by_cases d1:(1024:Int)≤d
    ·rw[bR d1];exact⟨_,rfl,(aB fun h=>by omega).symm⟩
    ·rw[cD d1,aD,aB (by decide),aC,aA ⟨rfl,rfl,by omega,by omega⟩]
     dsimp only
     have hFa:=hF a a0 a1
     have e:(nth aU v.1.1.2.2.1 a).2.2.2.2.1=aP v.1.1 a:=rfl
     let Y:Nat→List Int→List Rd→An:=fun c t s=>d8 v.1.1 (fun q=>fk v.2.1 q d k) a p i d ((aP v.1.1 a).length -c) c t s
     refine aZ.2 (W.ct (W.mono (gu (L:=pK) rfl (fun c(u:List Int×List Rd)(r:dN _ _)=>CT (fun r=>∃t s,r=(a,p,i,(0:Int),(0:Int),(0:Int),t,s)∧Y c u.1 u.2=(true,(a,(p,(i,(t,())))),s)) (fun r=>r=Y c u.1 u.2) r) (aP v.1.1 a).length (fun c(u:List Int×List Rd)=>((c:Int),v,a,p,i,d,k,(0:Int),(0:Int),(0:Int),v.1.1,u.1,u.2)) (fun c u=>u.1.length≤c∧u.2.length≤c) ?step ?stop dA 1 ([p],[]) (by show _<18446744073709551616;omega) (by omega) ⟨cV _,cX _⟩) fun r hr=>hr) (fun r hr=>?_) fun r hr=>hr)
     case step=>
      rintro rec c ⟨t,s⟩ hc ⟨ht,hs⟩ kk
      dsimp only at ht hs ⊢
      have hw2:=fF c (by omega)
      rw[e,aA a0,aA a1,cq (by omega),lW v v.1.1 hN hl c a p i d k s (by omega),aD]
      have eY:Y c t s=if((fk v.2.1 (cG a p i c) d k).2&&kI v.1.1 a c (fk v.2.1 (cG a p i c) d k).1)=true then Y (c+1) (t++[(fk v.2.1 (cG a p i c) d k).1]) (s++[dD a p i d c]) else(false,zI,s++[dD a p i d c]):=by
       show d8 _ _ _ _ _ _ _ _ _ _=_
       rw[show(aP v.1.1 a).length -c=((aP v.1.1 a).length -(c+1))+1 by omega]
       rfl
      rw[eY]
      dsimp only
      cases(fk v.2.1 (cG a p i c) d k).2&&kI v.1.1 a c (fk v.2.1 (cG a p i c) d k).1 with
      |false=>exact⟨_,rfl,rfl⟩
      |
       true=>
       rw[aB (by decide),aA rfl,aA (show(t.length+List.length [_])*8≤aF by rw[bD];omega),hw2]
       exact kk (_,_) ⟨by rw[cz,bD];omega,by rw[cz,bD];omega⟩
     case stop=>
      rintro rec ⟨t,s⟩ _
      dsimp only
      rw[e,aA a0,aA a1,eF (by omega)]
      refine⟨_,rfl,t,s,rfl,?_⟩
      show d8 _ _ _ _ _ _ (_ -_) _ _ _=_
      rw[Nat.sub_self]
      rfl
     ·obtain⟨t,s,rfl,h⟩:=hr
      exact⟨_,rfl,h.symm⟩
theorem jM{β:Type}{g:Nat→List β}:∀n:Nat,(∀c<n,g c= [])→(List.range n).flatMap g= []
 |0,_=>rfl
 |
  n+1,h=>by
  rw[List.range_succ,List.flatMap_append,jM n fun c hc=>h c (by omega),List.flatMap_cons,List.flatMap_nil,h n (by omega)]
  rfl
theorem jN{β:Type}{g:Nat→List β}{c:Nat}:∀n:Nat,c<n→(∀x<n,x≠c→g x= [])→(List.range n).flatMap g=g c
 |0,h,_=>by omega
 |
  n+1,h,hx=>by
  rw[List.range_succ,List.flatMap_append,List.flatMap_cons,List.flatMap_nil,cw]
  by_cases e:c=n
  ·subst e
   rw[jM _ fun x hx'=>hx x (by omega) (by omega),jW]
  ·rw[jN n (by omega) fun x hx'=>hx x (by omega),hx n (by omega) (by omega),cw]
def fM(s:bF)(l:List Fa)(p:Pl):List Fa:=if 0≤p.1∧p.1<(s.2.2.1.length:Int) then(List.range (aP s p.1).length).flatMap fun(c:Nat)=>dr (cG p.1 p.2.1 p.2.2.1 c) l else[]
theorem lY(s:bF)(l:List Fa)(ix:List (Ky×List Fa))(h:∀key,aO aR (.slice 64 aN) key ix=dr key l)(p:Pl):cY s (some ix) p=fM s l p:=by
 have e:(fun(c:Nat)=>aO aR (.slice 64 aN) (p.1,(p.2.1,(aQ ((aQ ((16:Int)*p.2.2.1))+(c:Int)),()))) (bA (some ix)))=fun(c:Nat)=>dr (cG p.1 p.2.1 p.2.2.1 c) l:=funext fun c=>h _
 unfold cY fM
 rw[e]
theorem nB{a p i:Int}(i0:0≤i)(i1:i<4){c e:Nat}(hc:c≤1000)(he:e≤1000)(h:cG a p i c=cG a p i e):c=e:=by
 have h1:aQ ((aQ ((16:Int)*i))+(c:Int))=aQ ((aQ ((16:Int)*i))+(e:Int)):=congrArg (fun k:Ky=>k.2.2.1) h
 rw[dR (x:=(16:Int)*i) (by omega) (by omega),dR (by omega) (by omega),dR (by omega) (by omega)] at h1
 omega
theorem nC(s:bF)(l:List Fa){a p i:Int}(a0:0≤a)(a1:a<(s.2.2.1.length:Int))(hF:(aP s a).length≤1000)(i0:0≤i)(i1:i<4){c:Nat}(hc:c<(aP s a).length)(d k:Int):
 fk (fM s l (a,(p,(i,())))) (cG a p i c) d k=fk l (cG a p i c) d k:=by
 have e:(fM s l (a,(p,(i,())))).filter (cL (cG a p i c) k)=l.filter (cL (cG a p i c) k):=by
  have e1:fM s l (a,(p,(i,())))=(List.range (aP s a).length).flatMap fun(c:Nat)=>dr (cG a p i c) l:=aA ⟨a0,a1⟩
  rw[e1,List.filter_flatMap]
  rw[jN (c:=c) _ hc fun x hx hne=>?_]
  ·unfold dr
   rw[List.filter_filter]
   refine List.filter_congr fun x _=>?_
   unfold cL
   cases bM aR x.1 (cG a p i c)<;>simp
  ·unfold dr
   rw[List.filter_filter]
   refine List.filter_eq_nil_iff.2 fun y _=>?_
   intro h
   have h:=Bool.and_eq_true_iff.1 h
   have h1:=(Bool.and_eq_true_iff.1 h.1).1
   have q1:=(dw aR y.1 (cG a p i c)).1 h1
   have q2:=(dw aR y.1 (cG a p i x)).1 h.2
   exact hne (nB i0 i1 (by omega) (by omega) (q2.symm.trans q1))
 unfold fk iQ
 rw[e]
def Oa(w:aV)(d k:Int)(p:Pl):An:=eI w.1.1 (fun q=>fk w.2.1 q d k) p.1 p.2.1 p.2.2.1 d
theorem ND{w:aV}{PS:Zd}{U:List Pl}{ix:List (Ky×List Fa)}(hw:WY w PS U (some ix))(_hf:w.2.1.length≤1000)(h:∀key,aO aR (.slice 64 aN) key ix=dr key w.2.1)(d k:Int):MY w PS U (some ix) d k (Oa w d k):=by
 have hB:=hB
 refine⟨hw,fun p hP=>?_⟩
 have hpl:(cY w.1.1 (some ix) p).length≤aF:=by
  obtain⟨L,e,hL,_⟩:=jI hw p d k true none () [] [] []
  rw[lq hw p d k true none () [] [] []] at e
  have e:=fP e
  simp only[jb,true_and,nc] at e
  rw[e]
  omega
 rw[mQ (w.1,(cY w.1.1 (some ix) p,())) hw.sw.nb hw.sw.rules hw.fl hpl,lY w.1.1 w.2.1 ix h]
 unfold Oa
 rw[jd (d':=d) Iff.rfl (V:=fun q=>fk w.2.1 q d k) (V':=fun q=>fk (fM w.1.1 w.2.1 p) q d k) fun r hr=>?_,mz]
 obtain⟨⟨c,hc,rfl⟩,h1,h2,_⟩:=mw hr
 obtain⟨b,eb,hb⟩:=dP w.1.1 hw.sw.rules p.1
 have h1:b=true:=by unfold kH at h1;rw[eb] at h1;exact h1
 obtain⟨a0,a1,_⟩:=hb h1
 obtain⟨i0,i1⟩:=(lr _ _).2 h2
 exact nC w.1.1 w.2.1 (p:=p.2.1) a0 a1 (hw.fl _ a0 a1) i0 i1 hc d k
theorem WG{w:aV}{lo PS:Zd}{U:List Pl}{ix:List (Ky×List Fa)}(hw:WX w lo PS U (some ix))(hf:w.2.1.length≤1000)(h:∀key,aO aR (.slice 64 aN) key ix=dr key w.2.1)(m:DM)(d k:Int):MX w lo PS U (some ix) m d k (Oa w d k) (LQ w.1.1 m lo):=⟨hw,ND hw.y hf h d k,lG hw.cg.rk.pre m⟩
variable{w:aV} {lo PS:Zd} {U:List Pl} {ix:Ix} {m:DM} {d k:Int} {O:Pl→An} {L:Pl→Qy Rs}
def eS(b:Bool)(m:DM)(a p d:Int):Bool:=b&&(aO (.int .i64) .bool a (bA m)&&(decide ((0:Int)≤p)&&(decide (p<(4096:Int))&&(decide ((0:Int)≤d)&&decide (d<(1024:Int))))))
theorem iO(a p:Int)(w:aV)(ix:Ix)(d k:Int)(b:Bool)(m:DM)(z:Unit)(fo:FM)(se:SM)(rs:List Rd):
 jO a p w ix d k b m z fo se rs=some (eS b m a p d,w,ix,d,k,b,m,z,fo,se,rs):=by
 unfold jO eS
 cases b<;>cases aO (.int .i64) .bool a (bA m)<;>cases decide ((0:Int)≤p)<;>cases decide (p<(4096:Int))<;>cases decide ((0:Int)≤d)<;>cases decide (d<(1024:Int))<;>rfl
def ja(b:Bool)(m:DM)(a p d i:Int):Bool:= !aO (.int .i64) .bool a (bA m)||(decide (i=0)&&eS b m a p d)
theorem oU(a:Int):∀(l:List Ru)(m:Zr),(aO (.int .i64) .bool a m=true∨∃u∈l,u.2.1=a)→aO (.int .i64) .bool a (l.foldl (fun m u=>bK (.int .i64) u.2.1 true m) m)=true
 |[],m,h=>h.elim id fun⟨u,hu,_⟩=>(by cases hu)
 |
  u::l,m,h=>by
  rw[List.foldl_cons]
  refine oU a l _ ?_
  by_cases e:a=u.2.1
  ·left
   rw[e]
   exact dj (kt:=.int .i64) (vt:=.bool) rfl _ _ _
  ·rcases h with h|⟨v,hv,hva⟩
   ·left
    rw[cT (kt:=.int .i64) (vt:=.bool) rfl e]
    exact h
   ·rcases List.mem_cons.1 hv with rfl|hv
    ·exact absurd hva.symm e
    ·exact Or.inr ⟨v,hv,hva⟩
def Uu(w:aV)(p a:Int):List Pl:=((List.range 4).map fun(j:Nat)=>(a,(p,((j:Int),()))))++Uo w p (a,(p,((0:Int),())))
theorem sa(w:aV)(p a:Int){i:Int}(h0:0≤i)(h1:i<4):(a,(p,(i,())))∈Uu w p a:=
 iF _ (List.mem_map.2 ⟨i.toNat,List.mem_range.2 (by omega),by rw[show((i.toNat:Nat):Int)=i by omega]⟩)
theorem jr{w:aV}(p a:Int)(hT:FT w.1.1)(hf:w.2.1.length≤60):(Uu w p a).length≤2200:=by
 have:=nv p (a,(p,((0:Int),()))) hT hf
 unfold Uu
 rw[cz,gv,n9]
 omega
theorem WH{w:aV}{lo:Zd}(hc:CG w.1.1 lo)(hT:FT w.1.1)(hf:w.2.1.length≤60)(p a:Int){ix:Ix}(hix:IX (jJ w p) ix):WX w lo (jJ w p) (Uu w p a) ix:=
 {NC hc hT hf p (a,(p,((0:Int),()))) hix with
  pl:=fun b q i h0 h1 h2 h3 h4=>iX _ ((NC hc hT hf p (a,(p,((0:Int),()))) hix).pl b q i h0 h1 h2 h3 h4)
  len:=cW (jr p a hT hf) (by decide)}
theorem NF{w:aV}(hs:SA w.1.1)(hT:FT w.1.1)(hf:w.2.1.length≤60)(p a:Int){ix:Ix}(hix:IX (jJ w p) ix):WY w (jJ w p) (Uu w p a) ix:=
 ⟨hs.sw,cW (jr p a hT hf) (by decide),fun a a0 a1=>cW (hT.fields _ (bE (t:=aU) (l:=w.1.1.2.2.1) a0 a1)) (by decide),hix⟩
theorem NG{w:aV}(hf:w.2.1.length≤60)(p:Int){ix:List (Ky×List Fa)}(h:∀key,aO aR (.slice 64 aN) key ix=dr key w.2.1):IX (jJ w p) (some ix):=fun key=>by
 have e:aO aR (.slice 64 aN) key (bA (some ix))=dr key w.2.1:=h key
 have hle:(dr key w.2.1).length≤w.2.1.length:=n7 ..
 rw[e]
 exact⟨by omega,fun f hf=>dH _ (dH _ (iF _ (List.mem_map.2 ⟨f,(List.mem_filter.1 hf).1,rfl⟩)))⟩
abbrev dM(w:aV):DM:=some (gW w.1.1.2.2.2.1)
def LL(w:aV)(lo:Zd)(r:Int):Pl→Qy Rs:=if r=0 then LQ w.1.1 (dM w) lo else dt w.1.1 (dM w) fun _=>.ret zR
theorem iP{w:aV}(hs:SA w.1.1)(hT:FT w.1.1)(hf:w.2.1.length≤60){lo:Zd}{r:Int}(hcg:r=0→CG w.1.1 lo)(a0 a p:Int){ix:List (Ky×List Fa)}(h:∀key,aO aR (.slice 64 aN) key ix=dr key w.2.1)(d k:Int)(z:Unit){i:Int}(hU:(a,(p,(i,())))∈Uu w p a0)(hl:ja (decide (r=0)) (dM w) a p d i=true)(fo:FM)(se:SM)(rs:List Rd)(hI:MI w.1.1 (jJ w p) (Uu w p a0) (Oa w d k) (LL w lo r) fo se rs):
 W (cF (a,(p,(i,()))) w (some ix) d k (decide (r=0)) (dM w) z fo se rs) (LP w (jJ w p) (Uu w p a0) (some ix) (dM w) d k (Oa w d k) (LL w lo r) (decide (r=0)) z (a,(p,(i,()))) rs):=by
 have hP:p∈jJ w p:=dH _ (dx ..)
 have hix:=NG hf p h
 have Y:=ND (NF hs hT hf p a0 hix) (by omega) h d k
 refine nA Y _ z _ hI hU hP ?_
 by_cases hm:aO (.int .i64) .bool a (bA (dM w))=true
 ·have hr:r=0:=by
   refine Classical.byContradiction fun hr=>?_
   unfold ja eS at hl
   rw[hm,cD hr] at hl
   simp at hl
  have X:=WG (WH (hcg hr) hT hf p a0 hix) (by omega) h (dM w) d k
  have e:LL w lo r=LQ w.1.1 (dM w) lo:=aA hr
  rw[e] at hI ⊢
  exact ny X _ z _ hI hU hP
 ·refine nz Y _ z _ ?_ hm hI hU hP
  unfold LL
  by_cases hr:r=0
  ·rw[aA hr];exact lG (hcg hr).rk.pre _ _
  ·rw[aB hr]
   unfold dt
   rw[aB hm,aB hm]
theorem iR{ch:Ru→Qy (Bool×List In)}{bd:Ru→List In→In}{R:List Ru}{a:Int}{O:Pl→An}:∀n c,((cM ch bd R a n c).run O).1.2.2.2.1=true∨((cM ch bd R a n c).run O).1=zR
 |0,_=>Or.inr rfl
 |
  n+1,c=>by
  unfold cM
  split
  ·rw[Qy.run_bind]
   dsimp only
   split
   ·exact Or.inl rfl
   ·exact iR n (c+1)
  ·exact iR n (c+1)
theorem IT{w:aV}(hs:SA w.1.1)(hT:FT w.1.1)(hf:w.2.1.length≤60){lo:Zd}{r:Int}(er:vT w.1=some r)(hcg:r=0→CG w.1.1 lo)(a p d k:Int):
 f9 w a p d k=some (if eS (decide (r=0)) (dM w) a p d=true then(aT [] ((LL w lo r (a,(p,(0,())))).run (Oa w d k)).2,((LL w lo r (a,(p,(0,())))).run (Oa w d k)).1.2.2.2.1,((LL w lo r (a,(p,(0,())))).run (Oa w d k)).1.1) else([],false,zI))∧
 (eS (decide (r=0)) (dM w) a p d=true→((LL w lo r (a,(p,(0,())))).run (Oa w d k)).1.1.2.2.2.1.length≤1000)∧
 (eS (decide (r=0)) (dM w) a p d=true→(aT [] ((LL w lo r (a,(p,(0,())))).run (Oa w d k)).2).length≤2200000∧FG ((LL w lo r (a,(p,(0,())))).run (Oa w d k)).1):=by
 obtain⟨ix,e1,h1⟩:=lU w (by omega) hs.sw.rules d k (decide (r=(0:Int)))
 unfold f9 A2
 rw[er,aD,e1,aD]
 dsimp only
 rw[iO,aD]
 dsimp only
 cases hi:eS (decide (r=(0:Int))) (dM w) a p d with
 |false=>exact⟨rfl,fun h=>(by cases h),fun h=>(by cases h)⟩
 |
  true=>
  rw[aB (show¬(!true)=true by decide),aA rfl]
  obtain⟨x,ex,fo,se,rfl,hI,hx,hg⟩:=iP hs hT hf hcg a a p h1 d k () (i:=0) (sa w p a (by omega) (by omega)) (by unfold ja;rw[hi];cases aO (.int .i64) .bool a (bA (dM w))<;>rfl) [] [] [] (MI.nil _ _ _ _ _)
  rw[ex]
  have hU:=jr p a hT hf
  have hl:=hI.fi.len
  have hr:=hI.fi.rs
  refine⟨rfl,fun _=>?_,fun _=>⟨by omega,hg⟩⟩
  unfold eS at hi
  rw[bP,bP] at hi
  obtain⟨hr,hm,_⟩:=hi
  have hr:=bY hr
  obtain⟨u,hu,hua⟩:=nI a _ hm
  have hR:=(hcg hr).tg.rules u hu
  have iq:((LL w lo r (a,(p,(0,())))).run (Oa w d k)).1.2.2.2.1=true∨((LL w lo r (a,(p,(0,())))).run (Oa w d k)).1=zR:=by
   unfold LL
   rw[aA hr,lG (hcg hr).rk.pre]
   unfold dt
   rw[aA hm]
   exact iR _ _
  rcases iq with h|h
  ·rw[(hx h).1,←hua]
   exact cW (hT.fields _ (bE (t:=aU) (l:=w.1.1.2.2.1) hR.h0 hR.h1)) (by decide)
  ·rw[h];exact cX _
variable{w:aV} {lo PS:Zd} {U:List Pl} {ix:Ix} {m:DM} {d k:Int} {O:Pl→An} {L:Pl→Qy Rs}
theorem Md{w:aV}(hs:SA w.1.1)(hT:FT w.1.1)(hf:w.2.1.length≤60){lo:Zd}{r:Int}(er:vT w.1=some r)(hcg:r=0→CG w.1.1 lo)(a p d k:Int):
 ∃x:Rs,xL w a p d k=some (x.2.1,x.2.2.1,x.2.2.2.1)∧x=if eS (decide (r=0)) (dM w) a p d=true then((LL w lo r (a,(p,(0,())))).run (Oa w d k)).1 else zR:=by
 obtain⟨ix,e1,h1⟩:=lU w (by omega) hs.sw.rules d k (decide (r=(0:Int)))
 unfold xL A2
 rw[er,aD,e1,aD]
 dsimp only
 rw[iO,aD]
 dsimp only
 cases hi:eS (decide (r=(0:Int))) (dM w) a p d with
 |false=>exact⟨zR,rfl,rfl⟩
 |
  true=>
  rw[aB (show¬(!true)=true by decide),aA rfl]
  obtain⟨x,ex,fo,se,rfl,_,hx⟩:=iP hs hT hf hcg a a p h1 d k () (i:=0) (sa w p a (by omega) (by omega)) (by unfold ja;rw[hi];cases aO (.int .i64) .bool a (bA (dM w))<;>rfl) [] [] [] (MI.nil _ _ _ _ _)
  rw[ex]
  exact⟨_,rfl,rfl⟩
theorem zX{s:bF}(h:wf eR s):SA s where
 ss:=
  {kq:=h.1.2.1
   kM:=h.2.1.2.1
   dh:=h.2.2.1.2.1
   rules:=h.2.2.2.1.2.1
   fX:=h.2.2.2.2.1.2.1
   dX:=h.2.2.2.2.2.1.2.1
   fields:=fun x hx=>⟨(h.2.2.1.2.2 x hx).2.2.2.2.1.2.1,fun f hf=>((h.2.2.1.2.2 x hx).2.2.2.2.1.2.2 f hf).2.1.2.2.2.2.2.1.2.1⟩
   sN:=fun x hx=>⟨(h.2.2.1.2.2 x hx).2.2.2.2.2.1.2.1,fun d hd=>⟨((h.2.2.1.2.2 x hx).2.2.2.2.2.1.2.2 d hd).1.2.1,((h.2.2.1.2.2 x hx).2.2.2.2.2.1.2.2 d hd).2.2.1.2.1⟩⟩
   rl:=fun r hr=>⟨(h.2.2.2.1.2.2 r hr).2.2.1.2.1,(h.2.2.2.1.2.2 r hr).2.2.2.1.2.1,(h.2.2.2.1.2.2 r hr).2.2.2.2.1.2.1⟩
   mv:=fun c hc=>(h.2.2.2.2.1.2.2 c hc).2.2.2.2.1.2.1
   may:=fun p hp=>(h.2.2.2.2.2.1.2.2 p hp).2.1.2.1}
 bs:=
  {kq:=h.1.1
   kM:=h.2.1.1
   dh:=h.2.2.1.1
   rules:=h.2.2.2.1.1
   fX:=h.2.2.2.2.1.1
   dX:=h.2.2.2.2.2.1.1
   CX:=fun x hx=>⟨(h.2.2.1.2.2 x hx).2.2.2.2.1.1,(h.2.2.1.2.2 x hx).2.2.2.2.2.1.1,fun d hd=>((h.2.2.1.2.2 x hx).2.2.2.2.2.1.2.2 d hd).1.1⟩
   rl:=fun r hr=>⟨(h.2.2.2.1.2.2 r hr).2.2.1.1,(h.2.2.2.1.2.2 r hr).2.2.2.1.1,(h.2.2.2.1.2.2 r hr).2.2.2.2.1.1⟩
   cv:=fun c hc=>(h.2.2.2.2.1.2.2 c hc).2.2.2.2.1.1
   pu:=fun p hp=>(h.2.2.2.2.2.1.2.2 p hp).2.1.1}
 sw:=
  {kM:=h.2.1.2.1
   dh:=h.2.2.1.2.1
   rules:=h.2.2.2.1.2.1
   dX:=h.2.2.2.2.2.1.2.1
   nb:=fun x hx=>⟨(h.2.2.1.2.2 x hx).2.2.2.2.1.2.1,fun f hf=>((h.2.2.1.2.2 x hx).2.2.2.2.1.2.2 f hf).2.1.2.2.2.2.2.1.2.1⟩
   rl:=fun r hr=>⟨(h.2.2.2.1.2.2 r hr).2.2.1.2.1,(h.2.2.2.1.2.2 r hr).2.2.2.1.2.1,(h.2.2.2.1.2.2 r hr).2.2.2.2.1.1⟩
   may:=fun p hp=>(h.2.2.2.2.2.1.2.2 p hp).2.1.2.1}
theorem nF{w:aV}(hs:SA w.1.1):∃r lo,vT w.1=some r∧(r=0→CG w.1.1 lo):=by
 obtain⟨r,er,hc⟩:=uN w.1 hs
 by_cases h:r=0
 ·obtain⟨lo,h2⟩:=hc h
  exact⟨r,lo,er,fun _=>h2⟩
 ·exact⟨r,[],er,fun h'=>absurd h' h⟩
abbrev Te:=gQ
def fT(s:bF)(a b:Int):jx:=(nth cS (aP s a) b).2.1
theorem wW{t:jx}{n:Int}(h:PA t n=some true):0≤t.2.1∧t.2.2.1≤1048576:=by
 unfold PA at h
 have hv:=ud h
 split at hv
 ·rename_i e1
  split at hv
  ·split at hv
   ·rename_i e3
    exact⟨bY e1,bY e3⟩
   ·cases hv
  ·cases hv
 ·cases hv
theorem wX{t:jx}{n:Int}(h:GF t n=some true):t.2.1=0∧t.2.2.1=1023:=by
 unfold GF at h
 have hv:=ud h
 split at hv
 ·rename_i e1
  split at hv
  ·rename_i e3
   exact⟨bY e1,bY e3⟩
  ·cases hv
 ·cases hv
theorem wY{t:jx}{n:Int}(h:GD t n=some true):t.2.1=0∧t.2.2.1=4095:=by
 unfold GD at h
 have hv:=ud h
 split at hv
 ·rename_i e1
  split at hv
  ·rename_i e3
   exact⟨bY e1,bY e3⟩
  ·cases hv
 ·cases hv
theorem wZ{t:jx}{n:Int}(h:GC t n=some true):t.2.1=0∧t.2.2.1≤15:=by
 unfold GC at h
 have hv:=ud h
 split at hv
 ·rename_i e1
  split at hv
  ·rename_i e2
   split at hv
   ·split at hv
    ·rename_i e4
     split at hv
     ·rename_i e5
      have e2:=bY e2
      have e4:=bY e4
      have e5:=bY e5
      rw[dR (by omega) (by omega)] at e2
      exact⟨bY e1,by omega⟩
     ·cases hv
    ·cases hv
   ·cases hv
  ·cases hv
 ·cases hv
theorem uj{c:kU}{t:jx}(h:uB c t=some true):0≤t.2.1∧t.2.2.1≤1048576∧(t.1=3→t.2.1=0∧t.2.2.1=4095):=by
 unfold uB at h
 by_cases h1:t.1<1
 ·rw[cq h1] at h;cases h
 ·by_cases h2:(4:Int)<t.1
  ·rw[aB (by simpa using h1),bR h2] at h;cases h
  ·rw[aB (by simpa using h1),cD h2,aD,aB (by decide),aC] at h
   dsimp only at h
   rw[aA (by omega),aA (by omega),aB (by omega)] at h
   by_cases e1:t.1=1
   ·rw[aA e1] at h
    obtain⟨a,b⟩:=wW (ud h)
    exact⟨a,b,fun e=>by omega⟩
   ·rw[aB e1] at h
    by_cases e2:t.1=2
    ·rw[aA e2] at h
     obtain⟨a,b⟩:=wX (ud h)
     exact⟨by omega,by omega,fun e=>by omega⟩
    ·rw[aB e2] at h
     by_cases e3:t.1=3
     ·rw[aA e3] at h
      obtain⟨a,b⟩:=wY (ud h)
      exact⟨by omega,by omega,fun _=>⟨a,b⟩⟩
     ·rw[aB e3,aA (by omega)] at h
      obtain⟨a,b⟩:=wZ (ud h)
      exact⟨by omega,by omega,fun e=>absurd e e3⟩
theorem w6{s:bF}(hT:TG s)(r:np)(h:HF s r.2.2.1 r.2.2.2.1):K7 (s,()) r=some (true,fT s r.2.2.1 r.2.2.2.1):=by
 unfold K7
 rcases gG (s,()) r.2.2.1 r.2.2.2.1 with⟨_,e⟩|⟨hn,_⟩
 ·rw[e,aD]
  dsimp only
  rw[aB (by decide)]
  have hm:=h.mem
  have hq:uB (s,()) (nth cS (aP s r.2.2.1) r.2.2.2.1).2.1=some true:=hT.ok _ hm.1 _ hm.2
  rw[hq,aD,aB (by decide)]
  have hu:=iM hq
  by_cases h0:0≤(nth cS (aP s r.2.2.1) r.2.2.2.1).2.1.2.2.2.2.1
  ·rw[cq h0,aA h0,aA hu]
   have hz:=hT.uok _ (bE (t:=bB) (l:=s.2.1) h0 hu)
   rw[hz];rfl
  ·rw[aB (fun h=>h0 (bY h))];rfl
 ·exact absurd h hn
def FZ(s:bF)(a b n:Int):Int:=match f32 s ([],([],(a,(b,())))) n with
 |some p=>p.1
 |none=>0
theorem DX{s:bF}(hT:TG s){a b n:Int}(h:HF s a b)(h0:0≤n)(h1:n≤1048576):f32 s ([],([],(a,(b,())))) n=some (FZ s a b n,0):=by
 have key:∃m:Int,f32 s ([],([],(a,(b,())))) n=some (m,0):=by
  unfold f32
  rw[w6 hT ([],([],(a,(b,())))) h,aD]
  dsimp only
  rw[aB (by decide),aB (fun h=>(by have:=bY h;omega)),cD (by omega),aD,aB (by decide),aC]
  dsimp only
  have hm:=h.mem
  have hu:(fT s a b).2.2.2.2.1<(s.2.1.length:Int):=iM (hT.ok _ hm.1 _ hm.2)
  by_cases h0:0≤(fT s a b).2.2.2.2.1
  ·rw[cq h0,aA h0,aA hu];exact⟨_,rfl⟩
  ·rw[aB (fun h=>h0 (bY h))];exact⟨_,rfl⟩
 obtain⟨m,e⟩:=key
 unfold FZ
 rw[e]
def sc(o a b:Int):Bool:=match wc o a b with
 |some r=>r
 |none=>false
theorem nJ(o a b:Int):wc o a b=some (sc o a b):=by
 obtain⟨r,e⟩:=dO o a b
 unfold sc
 rw[e]
def nR(t:Te)(l:List In):Int:=if t.2.2.1= -1 then t.2.2.2.2.1 else nth (.int .i64) (nth bS l t.2.2.1).2.2.2.1 t.2.2.2.1
structure LV(s:bF)(u:Ru)(l:List In):Prop where
 len:l.length≤u.2.2.1.length
 ok:∀j:Nat,j<l.length→(nth bS l (j:Int)).2.2.2.1.length=(aP s (nth bG u.2.2.1 (j:Int)).2.2.1).length
theorem LV.li{s:bF}{u:Ru}{l:List In}(h:LV s u l):LI s (l.flatMap fun x=>x.2.2.2.1) u l:=
 ⟨h.len,fun x h0 h1=>by
  have e:x=((x.toNat:Nat):Int):=by omega
  have h2:=h.ok x.toNat (by omega)
  rw[←e] at h2
  exact⟨h2,fun v hv=>List.mem_flatMap.2 ⟨_,bE (t:=bS) h0 h1,hv⟩⟩⟩
theorem mR{s:bF}{u:Ru}{l:List In}(hL:LV s u l)(hl:l.length=u.2.2.1.length){t:Te}(ht:ml (cR s u) t):sC t l=some (nR t l):=by
 unfold sC nR
 by_cases h:t.2.2.1= -1
 ·rw[cq h,aA h]
 ·rcases ht with hi|hi
  ·obtain⟨a1,a2,a3,a4,_⟩:=gI hL.li (by rw[hl];exact fQ _) hi
   rw[aB (fun h'=>h (bY h')),aA a1,aA a2,aA a3,aA a4,aB h]
  ·exact absurd hi h
def tS(u:Ru)(t:Te):Int:=(nth bG u.2.2.1 t.2.2.1).2.2.1
def nS(s:bF)(u:Ru)(l:List In)(a:zT):Bool:=
 if a.2.1.2.2.1= -1∨a.2.2.1.2.2.1= -1 then sc a.1 (nR a.2.1 l) (nR a.2.2.1 l) else sc a.1 (FZ s (tS u a.2.1) a.2.1.2.2.2.1 (nR a.2.1 l)) (FZ s (tS u a.2.2.1) a.2.2.1.2.2.2.1 (nR a.2.2.1 l))
theorem oV{u:Ru}{l:List In}(w:aV)(hN:NB w.1.1)(hL:LV w.1.1 u l)(hl:l.length=u.2.2.1.length){t:Te}(ht:ml (cR w.1.1 u) t)(h1:t.2.2.1≠-1) ix d k b m z fo se rs:
 i7 t u w ix d k b m z l fo se rs=some (FZ w.1.1 (tS u t) t.2.2.2.1 (nR t l),u,w,ix,d,k,b,m,z,l,fo,se,rs):=by
 unfold i7
 rcases ht with hi|hi
 ·rw[aA hi.v0,aA (show t.2.2.1<(u.2.2.1.length:Int) from hi.v1),mR hL hl (Or.inl hi),aD]
  obtain⟨p,hp⟩:=lk w.1.1 hN ([],([],((nth bG u.2.2.1 t.2.2.1).2.2.1,(t.2.2.2.1,())))) (nR t l)
  have e:FZ w.1.1 (tS u t) t.2.2.2.1 (nR t l)=p.1:=by
   unfold FZ tS
   rw[hp]
  rw[hp,e]
  rfl
 ·exact absurd hi h1
theorem At{u:Ru}{l:List In}(w:aV)(hN:NB w.1.1)(hw:u.2.2.2.1.length≤aF)(hR:RK (cR w.1.1 u))(hL:LV w.1.1 u l)(hl:l.length=u.2.2.1.length) ix d k b m z fo se rs:
 W (fE u w ix d k b m z l fo se rs) fun r=>r.1=u.2.2.2.1.all (nS w.1.1 u l):=by
 have hB:=hB
 unfold fE
 refine aZ.2 (W.ct (gu (L:=cZ) rfl (fun c(_:Unit)(r:dN _ _)=>CT (fun d'=>(u.2.2.2.1.drop c).all (nS w.1.1 u l)=true) (fun r=>r.1=false∧(u.2.2.2.1.drop c).all (nS w.1.1 u l)=false) r) u.2.2.2.1.length (fun c(_:Unit)=>(u.2.2.2.1,(u.2.2.2.1.length:Int),(c:Int),w,ix,d,k,b,m,z,l,fo,se,rs,u)) (fun _ _=>True) ?step ?stop _ 0 () (by omega) (by omega) trivial) (fun d' h=>?_) fun r h=>?_)
 case step=>
  intro rec c _ hc _ kk
  dsimp only
  have hm:=hR.wh _ (bE (t:=cH) (l:=u.2.2.2.1) (cu c) (show(c:Int)<(u.2.2.2.1.length:Int) by omega))
  rw[cq (by omega),dK c,aA (show(c:Int)<(u.2.2.2.1.length:Int) by omega)]
  have hw2:=fF c (by omega)
  have kk:=kk () trivial
  have hd:(u.2.2.2.1.drop c).all (nS w.1.1 u l)=(nS w.1.1 u l (nth cH u.2.2.2.1 (c:Int))&&(u.2.2.2.1.drop (c+1)).all (nS w.1.1 u l)):=by
   rw[iA hc,List.all_cons,cJ (t:=cH) hc]
  rw[hd]
  have hm:ml (cR w.1.1 u) (nth cH u.2.2.2.1 (c:Int)).2.1∧ml (cR w.1.1 u) (nth cH u.2.2.2.1 (c:Int)).2.2.1:=hm
  generalize nth cH u.2.2.2.1 (c:Int)=a at hm
  rw[mR hL hl hm.1,aD,mR hL hl hm.2,aD]
  have fin:∀p q:Int,nS w.1.1 u l a=sc a.1 p q→W (Option.bind (wc a.1 p q) fun y10=>if(!y10)=true then(cN (some (false,w,ix,d,k,b,m,z,l,fo,se,rs))) else rec (u.2.2.2.1,(u.2.2.2.1.length:Int),aQ ((c:Int)+(1:Int)),w,ix,d,k,b,m,z,l,fo,se,rs,u)) (CT (fun _=>(nS w.1.1 u l a&&(u.2.2.2.1.drop (c+1)).all (nS w.1.1 u l))=true) fun r=>r.1=false∧(nS w.1.1 u l a&&(u.2.2.2.1.drop (c+1)).all (nS w.1.1 u l))=false):=fun p q e=>by
   rw[nJ,aD,←e,hw2]
   cases nS w.1.1 u l a with
   |false=>exact⟨_,rfl,rfl,rfl⟩
   |true=>exact kk
  by_cases n1:a.2.1.2.2.1= -1
  ·rw[aB (show¬(!decide (a.2.1.2.2.1=(-1:Int)))=true by simpa using n1)]
   exact fin _ _ (aA (Or.inl n1))
  ·rw[aA (show(!decide (a.2.1.2.2.1=(-1:Int)))=true by simpa using n1),aD]
   by_cases n2:a.2.2.1.2.2.1= -1
   ·rw[aB (show¬(!decide (a.2.2.1.2.2.1=(-1:Int)))=true by simpa using n2)]
    exact fin _ _ (aA (Or.inr n2))
   ·rw[aA (show(!decide (a.2.2.1.2.2.1=(-1:Int)))=true by simpa using n2),oV w hN hL hl hm.1 n1,aD]
    dsimp only
    rw[oV w hN hL hl hm.2 n2]
    exact fin _ _ (aB fun h=>h.elim n1 n2)
 case stop=>
  intro rec _ _
  dsimp only
  rw[eF (by omega),List.drop_length]
  exact⟨_,rfl,rfl⟩
 ·rw[fN] at h
  exact⟨_,rfl,h.symm⟩
 ·rw[fN] at h
  rw[h.1,h.2]
theorem w7{s:bF}{u:Ru}{l:List In}(hN:NB s)(hw:u.2.2.2.1.length≤aF)(hR:RK (cR s u))(hL:LV s u l)(hl:l.length=u.2.2.1.length):gp s u l=u.2.2.2.1.all (nS s u l):=by
 obtain⟨r,e,h⟩:=At (w0 s) hN hw hR hL hl none 0 0 false none () [] [] []
 unfold gp
 rw[e]
 exact h
def Bi(l:List In)(v:Zd)(L:ZF):Zd:=L.foldl (fun v t=>v.set t.2.1.toNat (nR t.2.2.1 l)) v
theorem s9(l:List In):∀(L:ZF)(v:Zd),(Bi l v L).length=v.length
 |[],_=>rfl
 |
  t::L,v=>by
  show(Bi l (v.set _ _) L).length=_
  rw[s9 l L,cP]
theorem nK(l:List In)(j:Nat):∀(L:ZF)(v:Zd),(∀t∈L,t.2.1.toNat≠j)→(Bi l v L)[j]? =v[j]?
 |[],_,_=>rfl
 |
  t::L,v,h=>by
  show(Bi l (v.set _ _) L)[j]? =_
  rw[nK l j L _ fun t ht=>h t (dH _ ht),List.getElem?_set_ne (h t (dx ..))]
theorem vD(l:List In):∀(L:ZF)(v:Zd),(L.map fun t=>t.2.1.toNat).Nodup→∀t∈L,t.2.1.toNat<v.length→(Bi l v L)[t.2.1.toNat]? =some (nR t.2.2.1 l)
 |[],_,_,t,ht,_=>by cases ht
 |
  x::L,v,hn,t,ht,hl=>by
  rw[fp,lE] at hn
  show(Bi l (v.set _ _) L)[t.2.1.toNat]? =_
  rcases List.mem_cons.1 ht with rfl|ht
  ·rw[nK l _ L _ fun y hy e=>hn.1 (List.mem_map.2 ⟨y,hy,e⟩),List.getElem?_set_self hl]
  ·exact vD l L _ hn.2 t ht (by rw[cP];exact hl)
def w8(u:Ru)(p:Int)(l:List In)(n:Nat):Zd:=Bi l ((List.replicate n (0:Int)).set 0 p) u.2.2.2.2.1
theorem w9{u:Ru}{l:List In}(w:aV)(hw:u.2.2.2.2.1.length≤aF)(hR:RK (cR w.1.1 u))(hL:LV w.1.1 u l)(hl:l.length=u.2.2.1.length)(hf:1≤(aP w.1.1 u.2.1).length)(hf2:(aP w.1.1 u.2.1).length≤1000)(p:Int) ix d k b m z fo se rs:
 W (fD u p l w ix d k b m z fo se rs) fun r=>r.2.2.2.2.2.2.2.2.2.2=(u.2.1,(p,((0:Int),(w8 u p l (aP w.1.1 u.2.1).length,())))):=by
 have hB:=hB
 unfold fD
 have e:(nth aU w.1.1.2.2.1 u.2.1).2.2.2.2.1=aP w.1.1 u.2.1:=rfl
 rw[aA hR.h0,aA hR.h1,e,dK _,aA (fQ _),aA (by omega),aA (by rw[gn,dV];omega)]
 refine aZ.2 (W.ct (gu (L:=dQ) rfl (fun c(v:Zd)(r:dN _ _)=>CT (fun d'=>d'=(p,w,ix,d,k,b,m,z,fo,se,rs,u,(0:Int),(0:Int),(0:Int),Bi l v (u.2.2.2.2.1.drop c))) (fun _=>False) r) u.2.2.2.2.1.length (fun c(v:Zd)=>(p,l,u.2.2.2.2.1,(u.2.2.2.2.1.length:Int),(c:Int),w,ix,d,k,b,m,z,fo,se,rs,u,(0:Int),(0:Int),(0:Int),v)) (fun _ v=>v.length=(aP w.1.1 u.2.1).length) ?step ?stop _ 0 (List.set (List.replicate (Int.toNat ((aP w.1.1 u.2.1).length:Int)) (0:Int)) (Int.toNat (0:Int)) p) (by omega) (by omega) (by rw[cP,gn,dV])) (fun d' h=>?_) fun r h=>?_)
 case step=>
  rintro rec c v hc' hv kk
  dsimp only
  have hm:=bE (t:=dF) (l:=u.2.2.2.2.1) (cu c) (show(c:Int)<(u.2.2.2.2.1.length:Int) by omega)
  have hw2:=fF c (by omega)
  rw[cq (by omega),dK c,aA (show(c:Int)<(u.2.2.2.2.1.length:Int) by omega)]
  have hd:Bi l v (u.2.2.2.2.1.drop c)=Bi l (v.set (nth dF u.2.2.2.2.1 (c:Int)).2.1.toNat (nR (nth dF u.2.2.2.2.1 (c:Int)).2.2.1 l)) (u.2.2.2.2.1.drop (c+1)):=by
   rw[iA hc',cJ (t:=dF) hc']
   rfl
  rw[hd]
  generalize nth dF u.2.2.2.2.1 (c:Int)=t at hm
  obtain⟨hi,ht⟩:=hR.st _ hm
  have hb:t.2.1<(v.length:Int):=by rw[hv];exact hi.b1
  rw[mR hL hl ht,aD,aA hi.b0,aA hb,hw2]
  exact kk _ (by rw[cP];exact hv)
 case stop=>
  rintro rec v hv
  dsimp only
  rw[eF (by omega),List.drop_length]
  exact⟨_,rfl,rfl⟩
 ·rw[fN] at h
  subst h
  refine⟨_,rfl,?_⟩
  show(_,_)=(_,_)
  rw[dV]
  rfl
 ·exact h.elim
theorem qw{s:bF}{u:Ru}{l:List In}(hw:u.2.2.2.2.1.length≤aF)(hR:RK (cR s u))(hL:LV s u l)(hl:l.length=u.2.2.1.length)(hf:1≤(aP s u.2.1).length)(hf2:(aP s u.2.1).length≤1000)(p:Int):cK s u p l=(u.2.1,(p,((0:Int),(w8 u p l (aP s u.2.1).length,())))):=by
 obtain⟨r,e,h⟩:=w9 (w0 s) hw hR hL hl hf hf2 p none 0 0 false none () [] [] []
 unfold cK
 rw[e]
 exact h
variable{O:Pl→An} {L:Pl→Qy Rs} {s:bF} {m:DM} {u:Ru} {p:Int} {k:Pl→Rs}
def F0(k:Pl→Rs)(ch:List In→Bool×List In)(a o:Int)(l:List In):Nat→Nat→Bool×List In
 |0,_=>(false,l)
 |n+1,c=>if(k (a,(o,((c:Int),())))).2.2.2.1=true then(if(ch (l++[(k (a,(o,((c:Int),())))).1])).1=true then ch (l++[(k (a,(o,((c:Int),())))).1]) else F0 k ch a o l n (c+1)) else F0 k ch a o l n (c+1)
theorem qx(ch:List In→Qy (Bool×List In))(a o:Int)(l:List In):∀n c,((dg L ch a o l n c).run O).1=F0 (fun p=>((L p).run O).1) (fun l=>((ch l).run O).1) a o l n c
 |0,_=>rfl
 |
  n+1,c=>by
  unfold dg F0
  rw[Qy.run_bind]
  dsimp only
  by_cases h1:((L (a,(o,((c:Int),())))).run O).1.2.2.2.1=true
  ·rw[aA h1,aA h1,Qy.run_bind]
   dsimp only
   by_cases h2:((ch (l++[((L (a,(o,((c:Int),())))).run O).1.1])).run O).1.1=true
   ·rw[aA h2,aA h2];rfl
   ·rw[aB h2,aB h2];exact qx ch a o l n (c+1)
  ·rw[aB h1,aB h1];exact qx ch a o l n (c+1)
def vS(u:Ru)(j:Nat):Int:=(nth bG u.2.2.1 (j:Int)).2.2.1
def BQ(k:Pl→Rs)(s:bF)(m:DM)(u:Ru)(p:Int):Nat→List In→Bool×List In
 |0,l=>(gp s u l,l)
 |n+1,l=>F0 k (BQ k s m u p n) (vS u l.length) (bQ u p l) l (bC m (vS u l.length)) 0
theorem vE:∀n l,((aW L s m u p n l).run O).1=BQ (fun p=>((L p).run O).1) s m u p n l
 |0,_=>rfl
 |
  n+1,l=>by
  unfold aW BQ
  rw[qx,show(fun l=>((aW L s m u p n l).run O).1)=BQ (fun p=>((L p).run O).1) s m u p n from funext (vE n)]
  rfl
def A1(ch:Ru→Bool×List In)(bd:Ru→List In→In)(R:List Ru)(a:Int):Nat→Nat→Rs
 |0,_=>zR
 |n+1,c=>if(nth bX R (c:Int)).2.1=a then(if(ch (nth bX R (c:Int))).1=true then(bd (nth bX R (c:Int)) (ch (nth bX R (c:Int))).2,((c:Int),((ch (nth bX R (c:Int))).2,(true,())))) else A1 ch bd R a n (c+1)) else A1 ch bd R a n (c+1)
theorem qy(ch:Ru→Qy (Bool×List In))(bd:Ru→List In→In)(R:List Ru)(a:Int):∀n c,((cM ch bd R a n c).run O).1=A1 (fun u=>((ch u).run O).1) bd R a n c
 |0,_=>rfl
 |
  n+1,c=>by
  unfold cM A1
  by_cases h1:(nth bX R (c:Int)).2.1=a
  ·rw[aA h1,aA h1,Qy.run_bind]
   dsimp only
   by_cases h2:((ch (nth bX R (c:Int))).run O).1.1=true
   ·rw[aA h2,aA h2];rfl
   ·rw[aB h2,aB h2];exact qy ch bd R a n (c+1)
  ·rw[aB h1,aB h1];exact qy ch bd R a n (c+1)
def Lk(w:aV)(lo:Zd)(d k:Int)(p:Pl):Rs:=((LQ w.1.1 (dM w) lo p).run (Oa w d k)).1
theorem Au{w:aV}{lo:Zd}(hr:∀u∈w.1.1.2.2.2.1,∀v∈u.2.2.1,lo.idxOf v.2.2.1<lo.idxOf u.2.1)(d k:Int)(p:Pl)(h:aO (.int .i64) .bool p.1 (bA (dM w))=true):
 Lk w lo d k p=A1 (fun u=>BQ (Lk w lo d k) w.1.1 (dM w) u p.2.1 u.2.2.1.length []) (fun u l=>cK w.1.1 u p.2.1 l) w.1.1.2.2.2.1 p.1 w.1.1.2.2.2.1.length 0:=by
 show((LQ w.1.1 (dM w) lo p).run (Oa w d k)).1=_
 rw[lG hr]
 unfold dt
 rw[aA h,qy]
 congr 1
 funext u
 exact vE _ _
theorem Av{w:aV}{lo:Zd}(hr:∀u∈w.1.1.2.2.2.1,∀v∈u.2.2.1,lo.idxOf v.2.2.1<lo.idxOf u.2.1)(d k:Int)(p:Pl)(h:¬aO (.int .i64) .bool p.1 (bA (dM w))=true):
 Lk w lo d k p=((Oa w d k p).2.1,((0:Int),([],((Oa w d k p).1,())))):=by
 show((LQ w.1.1 (dM w) lo p).run (Oa w d k)).1=_
 rw[lG hr]
 unfold dt
 rw[aB h]
 rfl
theorem uk{ch:List In→Bool×List In}{a o:Int}{l l':List In}:∀n c,F0 k ch a o l n c=(true,l')→∃i:Nat,c≤i∧i<c+n∧(k (a,(o,((i:Int),())))).2.2.2.1=true∧ch (l++[(k (a,(o,((i:Int),())))).1])=(true,l')
 |0,_,h=>by cases h
 |
  n+1,c,h=>by
  unfold F0 at h
  by_cases h1:(k (a,(o,((c:Int),())))).2.2.2.1=true
  ·rw[aA h1] at h
   by_cases h2:(ch (l++[(k (a,(o,((c:Int),())))).1])).1=true
   ·rw[aA h2] at h
    exact⟨c,cV _,by omega,h1,h⟩
   ·rw[aB h2] at h
    obtain⟨i,g1,g2,g3⟩:=uk n (c+1) h
    exact⟨i,by omega,by omega,g3⟩
  ·rw[aB h1] at h
   obtain⟨i,g1,g2,g3⟩:=uk n (c+1) h
   exact⟨i,by omega,by omega,g3⟩
theorem DY{ch:List In→Bool×List In}{a o:Int}{l:List In}(i:Nat)(hk:(k (a,(o,((i:Int),())))).2.2.2.1=true)(hc:(ch (l++[(k (a,(o,((i:Int),())))).1])).1=true):∀n c,c≤i→i<c+n→∃e:Nat,∃l',e≤i∧F0 k ch a o l n c=(true,l')∧(k (a,(o,((e:Int),())))).2.2.2.1=true∧ch (l++[(k (a,(o,((e:Int),())))).1])=(true,l')
 |0,c,h1,h2=>by omega
 |
  n+1,c,g1,g2=>by
  unfold F0
  by_cases h1:(k (a,(o,((c:Int),())))).2.2.2.1=true
  ·rw[aA h1]
   by_cases h2:(ch (l++[(k (a,(o,((c:Int),())))).1])).1=true
   ·rw[aA h2]
    exact⟨c,_,g1,Prod.ext h2 rfl,h1,Prod.ext h2 rfl⟩
   ·rw[aB h2]
    by_cases e:c=i
    ·subst e;exact absurd hc h2
    ·exact DY i hk hc n (c+1) (by omega) (by omega)
  ·rw[aB h1]
   by_cases e:c=i
   ·subst e;exact absurd hk h1
   ·exact DY i hk hc n (c+1) (by omega) (by omega)
structure CS(k:Pl→Rs)(s:bF)(m:DM)(u:Ru)(p:Int)(n:Nat)(l l':List In):Prop where
 len:l'.length=l.length+n
 pre:l'.take l.length=l
 hold:gp s u l'=true
 each:∀j:Nat,l.length≤j→j<l'.length→∃i:Nat,i<bC m (vS u j)∧(k (vS u j,(bQ u p (l'.take j),((i:Int),())))).2.2.2.1=true∧(k (vS u j,(bQ u p (l'.take j),((i:Int),())))).1=nth bS l' (j:Int)
theorem yC{l l':List In}{x:In}(h:l'.take (l.length+1)=l++[x]):l'.take l.length=l∧l.length<l'.length∧nth bS l' (l.length:Int)=x:=by
 have hlen:=congrArg List.length h
 rw[gE,cz,bD] at hlen
 have hl:l.length<l'.length:=by omega
 have h1:=congrArg (List.take l.length) h
 rw[tB,rG (by omega),List.take_left] at h1
 refine⟨h1,hl,?_⟩
 rw[cJ (t:=bS) hl]
 have h2:(l'.take (l.length+1))[l.length]? =(l++[x])[l.length]? :=by rw[h]
 rw[List.getElem?_take,aA (Nat.lt_succ_self _),rF hl,List.getElem?_append_right (cV _),Nat.sub_self] at h2
 exact fP h2
theorem um:∀n l l',BQ k s m u p n l=(true,l')→CS k s m u p n l l'
 |
  0,l,l',h=>by
  have h1:gp s u l=true:=congrArg Prod.fst h
  have h2:l=l':=congrArg Prod.snd h
  subst h2
  exact⟨rfl,List.take_length,h1,fun j g1 g2=>by omega⟩
 |
  n+1,l,l',h=>by
  obtain⟨i,_,hi,hk,hc⟩:=uk _ _ h
  have h:=um n _ _ hc
  have hlen:=h.len
  have hpre:=h.pre
  rw[cz,bD] at hlen hpre
  obtain⟨q1,q2,q3⟩:=yC hpre
  refine⟨by omega,q1,h.hold,fun j g1 g2=>?_⟩
  by_cases e:j=l.length
  ·subst e
   refine⟨i,by omega,?_⟩
   rw[q1,q3]
   exact⟨hk,rfl⟩
  ·exact h.each j (by rw[cz,bD];omega) g2
def UQ(l' q:List In):Prop:=l'=q∨(l'.length=q.length∧∃j:Nat,j<q.length∧l'.take j=q.take j∧(nth bS l' (j:Int)).2.2.1<(nth bS q (j:Int)).2.2.1)
theorem KA:∀n l q,(∀j,l.length≤j→j<l.length+n→∀i:Nat,i<bC m (vS u j)→(k (vS u j,(bQ u p (q.take j),((i:Int),())))).2.2.2.1=true→(k (vS u j,(bQ u p (q.take j),((i:Int),())))).1.2.2.1=(i:Int))→CS k s m u p n l q→∃l',BQ k s m u p n l=(true,l')∧UQ l' q
 |
  0,l,q,_,h=>by
  have h1:=h.pre
  have h2:=h.len
  rw[j6 (by omega)] at h1
  subst h1
  exact⟨q,Prod.ext h.hold rfl,Or.inl rfl⟩
 |
  n+1,l,q,hi,h=>by
  have hlen:=h.len
  obtain⟨i,g1,g2,g3⟩:=h.each l.length (cV _) (by omega)
  rw[h.pre] at g2 g3
  have hq:q.take (l.length+1)=l++[(k (vS u l.length,(bQ u p l,((i:Int),())))).1]:=by
   rw[←List.take_append_getElem (show l.length<q.length by omega),h.pre,g3,cJ (t:=bS) (show l.length<q.length by omega)]
  have hc:CS k s m u p n (l++[(k (vS u l.length,(bQ u p l,((i:Int),())))).1]) q:=⟨by rw[cz,bD];omega,by rw[cz,bD];exact hq,h.hold,fun j q1 q2=>h.each j (by rw[cz,bD] at q1;omega) q2⟩
  obtain⟨l1,e1,le1⟩:=KA n _ q (fun j q1 q2=>hi j (by rw[cz,bD] at q1;omega) (by rw[cz,bD] at q2;omega)) hc
  obtain⟨e,l',he,h1,h2,h3⟩:=DY (k:=k) (ch:=BQ k s m u p n) (a:=vS u l.length) (o:=bQ u p l) (l:=l) i g2 (by rw[e1]) (bC m (vS u l.length)) 0 (cX _) (by omega)
  refine⟨l',h1,?_⟩
  by_cases hei:e=i
  ·subst hei
   rw[e1] at h3
   have h3:l1=l':=congrArg Prod.snd h3
   exact h3▸le1
  ·right
   have hC:=um n _ _ h3
   have hp:=hC.pre
   have hl:=hC.len
   rw[cz,bD] at hp hl
   obtain⟨q1,q2,q3⟩:=yC hp
   refine⟨by omega,l.length,by omega,q1.trans h.pre.symm,?_⟩
   have e3:=hi l.length (cV _) (by omega) e (by omega)
   have e4:=hi l.length (cV _) (by omega) i g1
   rw[h.pre] at e3 e4
   have e3:=e3 h2
   have e4:=e4 g2
   rw[q3,e3,←g3,e4]
   show(e:Int)<(i:Int)
   omega
theorem sf{ch:Ru→Bool×List In}{bd:Ru→List In→In}{R:List Ru}{a:Int}:∀n c,(A1 ch bd R a n c).2.2.2.1=true→∃e:Nat,c≤e∧e<c+n∧(nth bX R (e:Int)).2.1=a∧(ch (nth bX R (e:Int))).1=true∧A1 ch bd R a n c=(bd (nth bX R (e:Int)) (ch (nth bX R (e:Int))).2,((e:Int),((ch (nth bX R (e:Int))).2,(true,()))))
 |0,_,h=>by cases h
 |
  n+1,c,h=>by
  unfold A1 at h ⊢
  by_cases h1:(nth bX R (c:Int)).2.1=a
  ·rw[aA h1] at h ⊢
   by_cases h2:(ch (nth bX R (c:Int))).1=true
   ·rw[aA h2]
    exact⟨c,cV _,by omega,h1,h2,rfl⟩
   ·rw[aB h2] at h ⊢
    obtain⟨e,g1,g2,g3⟩:=sf n (c+1) h
    exact⟨e,by omega,by omega,g3⟩
  ·rw[aB h1] at h ⊢
   obtain⟨e,g1,g2,g3⟩:=sf n (c+1) h
   exact⟨e,by omega,by omega,g3⟩
theorem DZ{ch:Ru→Bool×List In}{bd:Ru→List In→In}{R:List Ru}{a:Int}(i:Nat)(ha:(nth bX R (i:Int)).2.1=a)(hc:(ch (nth bX R (i:Int))).1=true):∀n c,c≤i→i<c+n→∃e:Nat,c≤e∧e≤i∧(ch (nth bX R (e:Int))).1=true∧A1 ch bd R a n c=(bd (nth bX R (e:Int)) (ch (nth bX R (e:Int))).2,((e:Int),((ch (nth bX R (e:Int))).2,(true,()))))
 |0,c,h1,h2=>by omega
 |
  n+1,c,g1,g2=>by
  unfold A1
  by_cases h1:(nth bX R (c:Int)).2.1=a
  ·rw[aA h1]
   by_cases h2:(ch (nth bX R (c:Int))).1=true
   ·rw[aA h2]
    exact⟨c,cV _,g1,h2,rfl⟩
   ·rw[aB h2]
    by_cases e:c=i
    ·subst e;exact absurd hc h2
    ·obtain⟨e,q1,q2,q3⟩:=DZ (bd:=bd) i ha hc n (c+1) (by omega) (by omega)
     exact⟨e,by omega,q2,q3⟩
  ·rw[aB h1]
   by_cases e:c=i
   ·subst e;exact absurd ha h1
   ·obtain⟨e,q1,q2,q3⟩:=DZ (bd:=bd) i ha hc n (c+1) (by omega) (by omega)
    exact⟨e,by omega,q2,q3⟩
variable{k:Pl→Rs} {m:DM}
structure VT(s:bF)(a:Int)(x:In):Prop where
 len:x.2.2.2.1.length=(aP s a).length
 A6:∀c:Nat,c<(aP s a).length→(fT s a (c:Int)).2.1≤nth (.int .i64) x.2.2.2.1 (c:Int)∧nth (.int .i64) x.2.2.2.1 (c:Int)≤(fT s a (c:Int)).2.2.1
structure GI(s:bF)(a p i:Int)(x:In):Prop where
 CX:x.1=a
 per:x.2.1=p
 itm:x.2.2.1=i
 vt:VT s a x
theorem IU{p i:Int}(h:iu p i=true):0≤p∧p≤4095:=by
 unfold iu wa at h
 by_cases h0:0≤p
 ·by_cases h1:p<4096
  ·exact⟨h0,by omega⟩
  ·rw[cq h0,cD h1] at h
   cases h
 ·rw[aB (fun h=>h0 (bY h))] at h
  cases h
theorem Aw{s:bF}{a b v:Int}(h:kI s a b v=true):(fT s a b).2.1≤v∧v≤(fT s a b).2.2.1:=by
 have h:Ej s a b v=some true:=by
  unfold kI at h
  cases e:Ej s a b v with
  |none=>rw[e] at h;cases h
  |some r=>rw[e] at h;exact congrArg some h
 unfold Ej at h
 rcases gG (s,()) a b with⟨_,e⟩|⟨_,y,e⟩
 ·rw[e,aD] at h
  dsimp only at h
  rw[aA rfl] at h
  obtain⟨v1,hv,h⟩:=bind_some h
  cases h
  obtain⟨q,_,hv⟩:=bind_some hv
  cases q with
  |false=>cases hv
  |
   true=>
   rw[aA rfl] at hv
   split at hv
   ·rename_i h1
    exact⟨bY h1,bY (fP hv)⟩
   ·cases hv
 ·rw[e,aD] at h
  cases h
theorem Ay{s:bF}(hT:TG s){a b:Int}(h:HF s a b):0≤(fT s a b).2.1∧(fT s a b).2.2.1≤1048576∧((fT s a b).1=3→(fT s a b).2.1=0∧(fT s a b).2.2.1=4095):=by
 have hm:=h.mem
 exact uj (hT.ok _ hm.1 _ hm.2)
theorem vF{s:bF}(hT:TG s){a:Int}(a0:0≤a)(a1:a<(s.2.2.1.length:Int)):(fT s a 0).2.1=0∧(fT s a 0).2.2.1=4095:=by
 have hm:=bE (t:=aU) (l:=s.2.2.1) a0 a1
 have hl:=hT.fields _ hm
 exact(Ay hT ⟨a0,a1,fQ _,by show(0:Int)<((aP s a).length:Int);have:1≤(aP s a).length:=hl;omega⟩).2.2 (hT.self _ hm)
theorem vG{s:bF}{V:Ky→Int×Bool}{a p i d:Int}:∀(n c:Nat)(t:Zd)(rs:List Rd),t.length=c→(d8 s V a p i d n c t rs).1=true→∃t',(d8 s V a p i d n c t rs).2.1=(a,(p,(i,(t++t',()))))∧t'.length=n∧∀e:Nat,c≤e→e<c+n→kI s a (e:Int) (nth (.int .i64) (t++t') (e:Int))=true
 |0,c,t,rs,_,_=>⟨[],by rw[cw];rfl,rfl,fun e _ _=>by omega⟩
 |
  n+1,c,t,rs,ht,h=>by
  unfold d8 at h ⊢
  by_cases hc:((V (cG a p i c)).2&&kI s a c (V (cG a p i c)).1)=true
  ·rw[aA hc] at h ⊢
   obtain⟨t',e1,e2,e3⟩:=vG n (c+1) (t++[(V (cG a p i c)).1]) (rs++[dD a p i d c]) (by rw[cz,bD];omega) h
   rw[iH] at e1 e3
   refine⟨(V (cG a p i c)).1::t',e1,by rw[da];omega,fun e g1 g2=>?_⟩
   by_cases he:e=c
   ·subst he
    subst ht
    have hx:nth (.int .i64) (t++(V (cG a p i t.length)).1::t') (t.length:Int)=(V (cG a p i t.length)).1:=by
     rw[cJ (t:=.int .i64) (by rw[cz,da];omega),uP (cV _)]
     simp only[Nat.sub_self,List.getElem_cons_zero]
    rw[hx]
    exact(Bool.and_eq_true_iff.1 hc).2
   ·exact e3 e (by omega) (by omega)
  ·rw[aB hc] at h
   cases h
theorem Az{s:bF}(hT:TG s)(hR:s.2.2.2.1.length≤aF){V:Ky→Int×Bool}{a p i d:Int}(h:(eI s V a p i d).1=true):GI s a p i (eI s V a p i d).2.1:=by
 unfold eI at h ⊢
 by_cases hc:kH s a=true∧iu p i=true∧0≤d∧d<1024
 ·rw[aA hc] at h ⊢
  obtain⟨b,eb,hb⟩:=dP s hR a
  have h1:=hc.1
  unfold kH at h1
  rw[eb] at h1
  obtain⟨a0,a1,a2⟩:=hb h1
  obtain⟨p0,p1⟩:=IU hc.2.1
  obtain⟨t',e1,e2,e3⟩:=vG _ 1 [p] [] rfl h
  rw[e1]
  refine⟨rfl,rfl,rfl,?_,fun c hcl=>?_⟩
  ·show([p]++t').length=_
   rw[cz,bD,e2]
   omega
  ·show _≤nth (.int .i64) ([p]++t') (c:Int)∧nth (.int .i64) ([p]++t') (c:Int)≤_
   by_cases c0:c=0
   ·subst c0
    obtain⟨s1,s2⟩:=vF hT a0 a1
    show(fT s a 0).2.1≤p∧p≤(fT s a 0).2.2.1
    omega
   ·exact Aw (e3 c (by omega) (by omega))
 ·rw[aB hc] at h
  cases h
theorem nL:∀(L:ZF),(∀t∈L,0≤t.2.1)→(L.map fun t=>t.2.1).Nodup→(L.map fun t=>t.2.1.toNat).Nodup
 |[],_,_=>List.nodup_nil
 |
  t::L,h,hn=>by
  rw[fp,lE] at hn ⊢
  refine⟨fun hm=>hn.1 ?_,nL L (fun x hx=>h x (dH _ hx)) hn.2⟩
  obtain⟨y,hy,e⟩:=List.mem_map.1 hm
  have h1:=h y (dH _ hy)
  have h2:=h t (dx ..)
  exact List.mem_map.2 ⟨y,hy,by omega⟩
theorem nth_get?{l:Zd}{i:Nat}{v:Int}(h:l[i]? =some v):nth (.int .i64) l (i:Int)=v:=by
 obtain⟨hi,e⟩:=List.getElem?_eq_some_iff.1 h
 rw[cJ (t:=.int .i64) hi]
 exact e
theorem D0{c:iw}(hR:RK c)(hf:1≤(aP c.1.1 c.2.1.2.1).length)(hf2:(aP c.1.1 c.2.1.2.1).length≤1000){j:Nat}(j0:j≠0)(hj:j<(aP c.1.1 c.2.1.2.1).length):∃t∈c.2.1.2.2.2.2.1,t.2.1.toNat=j:=by
 refine Classical.byContradiction fun hno=>?_
 have hnn:∀t∈c.2.1.2.2.2.2.1,0≤t.2.1:=fun t ht=>(hR.st t ht).1.b0
 have hnd:(c.2.1.2.2.2.2.1.map fun t=>t.2.1.toNat).Nodup:=nL _ hnn hR.sd
 have h1:(j::0::c.2.1.2.2.2.2.1.map fun t=>t.2.1.toNat).Nodup:=by
  rw[lE,lE]
  refine⟨fun h=>?_,fun h=>?_,hnd⟩
  ·rcases List.mem_cons.1 h with h|h
   ·exact j0 h
   ·obtain⟨t,ht,e⟩:=List.mem_map.1 h
    exact hno ⟨t,ht,e⟩
  ·obtain⟨t,ht,e⟩:=List.mem_map.1 h
   have:=hnn t ht
   exact(hR.sv t ht).1 (by omega)
 have h2:=jS _ (List.range (aP c.1.1 c.2.1.2.1).length) h1 fun x hx=>by
  rw[List.mem_range]
  rcases List.mem_cons.1 hx with rfl|hx
  ·exact hj
  ·rcases List.mem_cons.1 hx with rfl|hx
   ·omega
   ·obtain⟨t,ht,rfl⟩:=List.mem_map.1 hx
    have:=(hR.st t ht).1.b1
    have:=hnn t ht
    omega
 have h3:=hR.sn
 rw[dR (by omega) (by omega)] at h3
 rw[da,da,gv,n9] at h2
 omega
theorem qz{s:bF}{u:Ru}{l:List In}(hv:∀j:Nat,j<l.length→VT s (vS u j) (nth bS l (j:Int))){t:Te}{n:Int}(hn:n≤(l.length:Int))(h:EI (cR s u) t n):
 (A7 (cR s u) t).2.1≤nth (.int .i64) (nth bS l t.2.2.1).2.2.2.1 t.2.2.2.1∧nth (.int .i64) (nth bS l t.2.2.1).2.2.2.1 t.2.2.2.1≤(A7 (cR s u) t).2.2.1:=by
 have h1:=h.v0
 have h2:=h.v1
 have e1:((t.2.2.1.toNat:Nat):Int)=t.2.2.1:=by omega
 have hV:=hv t.2.2.1.toNat (by omega)
 unfold vS at hV
 rw[e1] at hV
 have h3:=h.f.b0
 have h4:=h.f.b1
 have e2:((t.2.2.2.1.toNat:Nat):Int)=t.2.2.2.1:=by omega
 have:=hV.A6 t.2.2.2.1.toNat (by show _<(aP (cR s u).1.1 (nth bG (cR s u).2.1.2.2.1 t.2.2.1).2.2.1).length;omega)
 rw[e2] at this
 exact this
theorem tc{s:bF}{u:Ru}{p:Int}{l:List In}{n:Nat}(hR:RK (cR s u))(hn:n=(aP s u.2.1).length){t:D90}(ht:t∈u.2.2.2.2.1):nth (.int .i64) (w8 u p l n) t.2.1=nR t.2.2.1 l:=by
 obtain⟨hi,_⟩:=hR.st t ht
 have b0:=hi.b0
 have b1:t.2.1<((aP s u.2.1).length:Int):=hi.b1
 have e:((t.2.1.toNat:Nat):Int)=t.2.1:=by omega
 have:=nth_get? (vD l u.2.2.2.2.1 ((List.replicate n (0:Int)).set 0 p) (nL _ (fun t ht=>(hR.st t ht).1.b0) hR.sd) t ht (by rw[cP,gn];omega))
 rw[e] at this
 exact this
theorem qA{s:bF}{u:Ru}{p:Int}{l:List In}{n:Nat}(hR:RK (cR s u))(hn:1≤n):nth (.int .i64) (w8 u p l n) 0=p:=by
 refine nth_get? (i:=0) ?_
 unfold w8
 rw[nK l 0 _ _ fun t ht e=>(hR.sv t ht).1 (by have:0≤t.2.1:=(hR.st t ht).1.b0;omega),List.getElem?_set_self (by rw[gn];omega)]
theorem qB{s:bF}(hT:TG s){u:Ru}(hR:RK (cR s u)){p:Int}(p0:0≤p)(p1:p≤4095){l:List In}(hl:l.length=u.2.2.1.length)(hv:∀j:Nat,j<l.length→VT s (vS u j) (nth bS l (j:Int)))(hw:u.2.2.2.2.1.length≤aF)(hf2:(aP s u.2.1).length≤1000):GI s u.2.1 p 0 (cK s u p l):=by
 have hf:1≤(aP s u.2.1).length:=hT.fields _ (bE (t:=aU) (l:=s.2.2.1) hR.h0 hR.h1)
 have hL:LV s u l:=⟨by omega,fun j hj=>(hv j hj).len⟩
 rw[qw hw hR hL hl hf hf2 p]
 refine⟨rfl,rfl,rfl,?_,fun c hc=>?_⟩
 ·show(w8 u p l _).length=_
  unfold w8
  rw[s9,cP,gn]
 ·show _≤nth (.int .i64) (w8 u p l (aP s u.2.1).length) (c:Int)∧nth (.int .i64) (w8 u p l (aP s u.2.1).length) (c:Int)≤_
  by_cases c0:c=0
  ·subst c0
   obtain⟨s1,s2⟩:=vF hT hR.h0 hR.h1
   have e:nth (.int .i64) (w8 u p l (aP s u.2.1).length) ((0:Nat):Int)=p:=qA hR hf
   rw[e]
   exact⟨Int.le_trans (Int.le_of_eq s1) p0,Int.le_trans p1 (Int.le_of_eq s2.symm)⟩
  ·obtain⟨t,ht,rfl⟩:=D0 hR hf hf2 c0 hc
   have b0:0≤t.2.1:=(hR.st t ht).1.b0
   have e:((t.2.1.toNat:Nat):Int)=t.2.1:=by omega
   rw[e,tc hR rfl ht]
   obtain⟨_,hsv⟩:=hR.sv t ht
   unfold nR
   rcases hsv with⟨h1,h2,h3⟩|⟨h1,h2,h3⟩
   ·rw[aA h1]
    exact⟨h2,h3⟩
   ·have hne:¬t.2.2.1.2.2.1= -1:=fun e=>by have:=h1.v0;omega
    rw[aB hne]
    obtain⟨q1,q2⟩:=qz hv (by rw[hl];exact fQ _) h1
    exact⟨Int.le_trans h2 q1,Int.le_trans q2 h3⟩
theorem oW{s:bF}(hT:TG s){u:Ru}(hR:RK (cR s u)){p:Int}(p0:0≤p)(p1:p≤4095){l:List In}(hl:l.length<u.2.2.1.length)(hv:∀j:Nat,j<l.length→VT s (vS u j) (nth bS l (j:Int))):0≤bQ u p l∧bQ u p l≤4095:=by
 have hF:FO (cR s u) l.length:=hR.fo _ hl
 unfold bQ
 by_cases h:(nth bG u.2.2.1 (l.length:Int)).2.2.2.1.2.2.1= -1
 ·rw[aA h];exact⟨p0,p1⟩
 ·rw[aB h]
  have h1:=hF.of.resolve_left h
  have h2:=hF.pk.resolve_left h
  obtain⟨q1,q2⟩:=qz hv (fQ _) h1
  obtain⟨_,_,q3⟩:=Ay hT h1.f
  obtain⟨q4,q5⟩:=q3 h2
  exact⟨Int.le_trans (Int.le_of_eq q4.symm) q1,Int.le_trans q2 (Int.le_of_eq q5)⟩
def F1(m:DM)(a o i:Int):Prop:=aO (.int .i64) .bool a (bA m)=true→0≤o∧o≤4095∧i=0
theorem l7{m:DM}{a o:Int}{i:Nat}(h:i<bC m a)(o0:0≤o)(o1:o≤4095):F1 m a o (i:Int):=fun hm=>by
 unfold bC at h
 rw[aA hm] at h
 exact⟨o0,o1,by omega⟩
theorem th{s:bF}(hT:TG s){u:Ru}(hR:RK (cR s u)){p:Int}(p0:0≤p)(p1:p≤4095){l:List In}(hl:l.length=u.2.2.1.length)
 (hk:∀j:Nat,j<u.2.2.1.length→∀o i,F1 m (vS u j) o i→(k (vS u j,(o,(i,())))).2.2.2.1=true→GI s (vS u j) o i (k (vS u j,(o,(i,())))).1)
 (he:∀j:Nat,j<l.length→∃i:Nat,i<bC m (vS u j)∧(k (vS u j,(bQ u p (l.take j),((i:Int),())))).2.2.2.1=true∧(k (vS u j,(bQ u p (l.take j),((i:Int),())))).1=nth bS l (j:Int)):
 ∀j:Nat,j<l.length→∃i:Nat,i<bC m (vS u j)∧(k (vS u j,(bQ u p (l.take j),((i:Int),())))).2.2.2.1=true∧(k (vS u j,(bQ u p (l.take j),((i:Int),())))).1=nth bS l (j:Int)∧GI s (vS u j) (bQ u p (l.take j)) (i:Int) (nth bS l (j:Int))∧0≤bQ u p (l.take j)∧bQ u p (l.take j)≤4095:=by
 intro j
 induction j using Nat.strongRecOn with
 |
  _ j ih=>
  intro hj
  obtain⟨i,h1,h2,h3⟩:=he j hj
  have hlen:(l.take j).length=j:=by rw[gE];omega
  obtain⟨o0,o1⟩:=oW hT hR p0 p1 (l:=l.take j) (by omega) fun e he=>by
   rw[hlen] at he
   obtain⟨_,_,_,_,g,_⟩:=ih e he (by omega)
   have e1:nth bS (l.take j) (e:Int)=nth bS l (e:Int):=by
    rw[cJ (t:=bS) (by omega),cJ (t:=bS) (by omega),List.getElem_take]
   rw[e1]
   exact g.vt
  exact⟨i,h1,h2,h3,h3▸hk j (by omega) _ _ (l7 h1 o0 o1) h2,o0,o1⟩
theorem mV{w:aV}{lo:Zd}(hc:CG w.1.1 lo)(hF:∀a,0≤a→a<(w.1.1.2.2.1.length:Int)→(aP w.1.1 a).length≤1000)(d t:Int):∀(n:Nat)(a o i:Int),lo.idxOf a<n→F1 (dM w) a o i→(Lk w lo d t (a,(o,(i,())))).2.2.2.1=true→GI w.1.1 a o i (Lk w lo d t (a,(o,(i,())))).1
 |0,_,_,_,h,_,_=>by omega
 |
  n+1,a,o,i,hn,hp,h=>by
  by_cases hm:aO (.int .i64) .bool a (bA (dM w))=true
  ·obtain⟨o0,o1,rfl⟩:=hp hm
   have e:=Au hc.rk.pre d t (a,(o,((0:Int),()))) hm
   rw[e] at h ⊢
   obtain⟨r,_,hr,hra,hch,er⟩:=sf _ _ h
   rw[er]
   dsimp only at hra hch ⊢
   have hu:=bE (t:=bX) (l:=w.1.1.2.2.2.1) (cu r) (by omega)
   generalize nth bX w.1.1.2.2.2.1 (r:Int)=u at hu hra hch ⊢
   have hR:RK (cR w.1.1 u):=hc.tg.rules u hu
   have hC:CS (Lk w lo d t) w.1.1 (dM w) u o u.2.2.1.length [] (BQ (Lk w lo d t) w.1.1 (dM w) u o u.2.2.1.length []).2:=um _ _ _ (Prod.ext hch rfl)
   have hlen:=hC.len
   rw[fO,ek] at hlen
   have hg:=th hc.tg hR o0 o1 hlen (fun j hj o i q1 q2=>mV hc hF d t n (vS u j) o i (by
    have:=hc.rk.pre u hu _ (bE (t:=bG) (l:=u.2.2.1) (cu j) (by omega))
    rw[hra] at this
    show lo.idxOf (nth bG u.2.2.1 (j:Int)).2.2.1<n
    omega) q1 q2) fun j hj=>hC.each j (cX _) hj
   have:=qB hc.tg hR o0 o1 hlen (fun j hj=>by
    obtain⟨_,_,_,_,g,_⟩:=hg j hj
    exact g.vt) (by have:=(hc.sw.rl u hu).2.2;omega) (hF _ hR.h0 hR.h1)
   rw[hra] at this
   exact this
  ·have e:=Av hc.rk.pre d t (a,(o,(i,()))) hm
   rw[e] at h ⊢
   exact Az hc.tg hc.sw.rules h
def IV(s:bF)(u:Ru)(t:Te)(l:List In):Int:=if t.2.2.1= -1 then t.2.2.2.2.1 else FZ s (tS u t) t.2.2.2.1 (nR t l)
structure LG(s:bF)(u:Ru)(l:List In):Prop where
 len:l.length≤u.2.2.1.length
 vt:∀j:Nat,j<l.length→VT s (vS u j) (nth bS l (j:Int))
 CX:∀j:Nat,j<l.length→(nth bS l (j:Int)).1=vS u j
theorem nM{l:List In}{i j:Nat}(h:i<j)(hj:j≤l.length):nth bS (l.take j) (i:Int)=nth bS l (i:Int):=by
 rw[cJ (t:=bS) (by rw[gE];omega),cJ (t:=bS) (by omega),List.getElem_take]
theorem LG.take{s:bF}{u:Ru}{l:List In}(h:LG s u l){j:Nat}(hj:j≤l.length):LG s u (l.take j):=
 ⟨by rw[gE];have:=h.len;omega,fun i hi=>by
  rw[gE] at hi
  rw[nM (by omega) hj]
  exact h.vt i (by omega),fun i hi=>by
  rw[gE] at hi
  rw[nM (by omega) hj]
  exact h.CX i (by omega)⟩
theorem sh{s:bF}(hT:TG s){u:Ru}{l:List In}(hL:LG s u l){t:Te}{n:Int}(hn:n≤(l.length:Int))(h:EI (cR s u) t n):B6 s t l=some (nR t l,IV s u t l,true):=by
 have v0:=h.v0
 have v1:=h.v1
 have e1:((t.2.2.1.toNat:Nat):Int)=t.2.2.1:=by omega
 have hV:=hL.vt t.2.2.1.toNat (by omega)
 have hS:=hL.CX t.2.2.1.toNat (by omega)
 unfold vS at hV hS
 rw[e1] at hV hS
 have b0:=h.f.b0
 have b1:t.2.2.2.1<((nth bS l t.2.2.1).2.2.2.1.length:Int):=by rw[hV.len];exact h.f.b1
 have hne:¬t.2.2.1= -1:=by omega
 obtain⟨r1,r2⟩:=qz hL.vt hn h
 obtain⟨r3,r4,_⟩:=Ay hT h.f
 have r3:0≤(A7 (cR s u) t).2.1:=r3
 have r4:(A7 (cR s u) t).2.2.1≤1048576:=r4
 unfold B6 IV nR
 rw[aB (fun h=>by have:=bY h;omega),aB (fun h=>by have:=bY h;omega),aB (fun h=>by have:=bY h;omega),aA v0,aA (by omega),cD (by omega),aD,aB (by decide),aC]
 dsimp only
 rw[aA v0,aA (by omega),aA b0,aA b1,aA v0,aA (by omega),hS,DX hT h.f (Int.le_trans r3 r1) (Int.le_trans r2 r4),aD,aB hne,aB hne]
 rfl
theorem Me{s:bF}(hT:TG s){u:Ru}{l:List In}(hL:LG s u l)(hl:l.length=u.2.2.1.length){t:Te}(ht:ml (cR s u) t):B6 s t l=some (nR t l,IV s u t l,true):=by
 rcases ht with h|h
 ·exact sh hT hL (by rw[hl];exact fQ _) h
 ·unfold B6 IV nR
  rw[cq (by omega),aA h,aA h]
theorem vH{c:iw}{t:Te}(h:ml c t):t.2.2.1= -1∨0≤t.2.2.1:=h.elim (fun h=>Or.inr h.v0) Or.inl
theorem D1{s:bF}{u:Ru}{l:List In}{a:zT}(ha:ml (cR s u) a.2.1)(hb:ml (cR s u) a.2.2.1):(0≤a.2.1.2.2.1∧0≤a.2.2.1.2.2.1→nS s u l a=sc a.1 (IV s u a.2.1 l) (IV s u a.2.2.1 l))∧(¬(0≤a.2.1.2.2.1∧0≤a.2.2.1.2.2.1)→nS s u l a=sc a.1 (nR a.2.1 l) (nR a.2.2.1 l)):=by
 constructor
 ·rintro⟨h1,h2⟩
  have n1:¬a.2.1.2.2.1= -1:=by omega
  have n2:¬a.2.2.1.2.2.1= -1:=by omega
  unfold nS IV
  rw[aB (fun h=>h.elim n1 n2),aB n1,aB n2]
 ·intro h
  unfold nS
  rw[aA]
  rcases vH ha with h1|h1
  ·exact Or.inl h1
  ·rcases vH hb with h2|h2
   ·exact Or.inr h2
   ·exact absurd ⟨h1,h2⟩ h
theorem vJ{w:aV}(a:Int):aO (.int .i64) .bool a (bA (dM w))=true↔∃u∈w.1.1.2.2.2.1,u.2.1=a:=
 ⟨fun h=>nI a _ h,fun h=>oU a _ [] (Or.inr h)⟩
theorem sj{w:aV}(hl:w.1.1.2.2.2.1.length≤aF)(a:Int):GB w.1.1 a=some (aO (.int .i64) .bool a (bA (dM w))):=by
 obtain⟨b,e,h⟩:=oG w.1.1 hl a
 rw[e]
 congr 1
 exact Bool.eq_iff_iff.2 (h.trans (vJ a).symm)
theorem yD{m:DM}{a p d:Int}(h:aO (.int .i64) .bool a (bA m)=true)(p0:0≤p)(p1:p≤4095)(d0:0≤d)(d1:d≤1023):eS true m a p d=true:=by
 unfold eS
 rw[h,bR p0,bR (show p<(4096:Int) by omega),bR d0,bR (show d<(1024:Int) by omega)]
 rfl
theorem D2{w:aV}(hs:SA w.1.1)(hT:FT w.1.1)(hf:w.2.1.length≤60)(a p i d k:Int):mU w a p i d k=some (Oa w d k (a,(p,(i,())))):=
 mQ w hs.sw.nb hs.sw.rules (fun a a0 a1=>cW (hT.fields _ (bE (t:=aU) (l:=w.1.1.2.2.1) a0 a1)) (by decide)) (by have:=hB;omega) a p i d k
theorem vK(w:aV)(lo:Zd):LL w lo 0=LQ w.1.1 (dM w) lo:=aA rfl
theorem Tg{w:aV}(hs:SA w.1.1)(hT:FT w.1.1)(hf:w.2.1.length≤60){lo:Zd}(er:vT w.1=some 0)(hc:CG w.1.1 lo)(a p d k:Int)(hi:eS true (dM w) a p d=true):∃rs,f9 w a p d k=some (rs,(Lk w lo d k (a,(p,(0,())))).2.2.2.1,(Lk w lo d k (a,(p,(0,())))).1):=by
 obtain⟨h,_⟩:=IT hs hT hf er (fun _=>hc) a p d k
 rw[show decide ((0:Int)=0)=true from rfl,aA hi,vK] at h
 exact⟨_,h⟩
theorem FT.fl{w:aV}(hT:FT w.1.1)(a:Int)(a0:0≤a)(a1:a<(w.1.1.2.2.1.length:Int)):(aP w.1.1 a).length≤1000:=cW (hT.fields _ (bE (t:=aU) (l:=w.1.1.2.2.1) a0 a1)) (by decide)
structure DR(w:aV)(lo:Zd)(d k:Int)(u:Ru)(p:Int)(l:List In):Prop where
 cs:CS (Lk w lo d k) w.1.1 (dM w) u p u.2.2.1.length [] l
 len:l.length=u.2.2.1.length
 each:∀j:Nat,j<l.length→∃i:Nat,i<bC (dM w) (vS u j)∧(Lk w lo d k (vS u j,(bQ u p (l.take j),((i:Int),())))).2.2.2.1=true∧(Lk w lo d k (vS u j,(bQ u p (l.take j),((i:Int),())))).1=nth bS l (j:Int)∧GI w.1.1 (vS u j) (bQ u p (l.take j)) (i:Int) (nth bS l (j:Int))∧0≤bQ u p (l.take j)∧bQ u p (l.take j)≤4095
 lg:LG w.1.1 u l
theorem LG.lv{s:bF}{u:Ru}{l:List In}(h:LG s u l):LV s u l:=⟨h.len,fun j hj=>(h.vt j hj).len⟩
structure DC(w:aV)(lo:Zd)(d k:Int)(u:Ru)(p:Int)(n:Nat)(l:List In):Prop where
 len:l.length=n
 le:n≤u.2.2.1.length
 each:∀j:Nat,j<l.length→∃i:Nat,i<bC (dM w) (vS u j)∧(Lk w lo d k (vS u j,(bQ u p (l.take j),((i:Int),())))).2.2.2.1=true∧(Lk w lo d k (vS u j,(bQ u p (l.take j),((i:Int),())))).1=nth bS l (j:Int)
 lg:LG w.1.1 u l
theorem DC.push{w:aV}{lo:Zd}{d k:Int}{u:Ru}{p:Int}{n:Nat}{l:List In}(h:DC w lo d k u p n l)(hn:n<u.2.2.1.length){i:Nat}{x:In}(h1:i<bC (dM w) (vS u n))(h2:(Lk w lo d k (vS u n,(bQ u p l,((i:Int),())))).2.2.2.1=true)(h3:(Lk w lo d k (vS u n,(bQ u p l,((i:Int),())))).1=x)(hg:GI w.1.1 (vS u n) (bQ u p l) (i:Int) x):DC w lo d k u p (n+1) (l++[x]):=by
 have hl:=h.len
 have old:∀j:Nat,j<l.length→nth bS (l++[x]) (j:Int)=nth bS l (j:Int):=fun j hj=>by
  rw[cJ (t:=bS) (by rw[cz];omega),cJ (t:=bS) hj,ze hj]
 have new:nth bS (l++[x]) (l.length:Int)=x:=by
  rw[cJ (t:=bS) (by rw[cz,bD];omega),uP (cV _)]
  simp only[Nat.sub_self,List.getElem_singleton]
 have cases_:∀j:Nat,j<(l++[x]).length→j<l.length∨j=l.length:=fun j hj=>by
  rw[cz,bD] at hj
  omega
 refine⟨by rw[cz,bD,hl],hn,fun j hj=>?_,by rw[cz,bD];omega,fun j hj=>?_,fun j hj=>?_⟩
 ·rcases cases_ j hj with h'|rfl
  ·rw[ET (by omega),old j h']
   exact h.each j h'
  ·rw[List.take_left,new,hl]
   exact⟨i,h1,h2,h3⟩
 ·rcases cases_ j hj with h'|rfl
  ·rw[old j h'];exact h.lg.vt j h'
  ·rw[new,hl];exact hg.vt
 ·rcases cases_ j hj with h'|rfl
  ·rw[old j h'];exact h.lg.CX j h'
  ·rw[new,hl];exact hg.CX
theorem Oq(c d:List In)(h:UQ c d)(hl:d.length≤aF):W (GO (Int.toNat (d.length:Int)+1) (c,(d.length:Int),(0:Int),d)) (CT (fun _=>True) fun r=>r=true):=by
 have hB:=hB
 have hcd:c.length=d.length:=h.elim (fun h=>by rw[h]) fun h=>h.1
 refine bW (L:=GO) rfl _ d.length (fun a(_:Unit)=>(c,(d.length:Int),(a:Int),d)) (fun a _=>c=d∨∃j:Nat,a≤j∧j<d.length∧c.take j=d.take j∧(nth bS c (j:Int)).2.2.1<(nth bS d (j:Int)).2.2.1) ?step ?stop _ 0 () (by omega) (by omega) (h.imp id fun⟨_,j,h1,h2⟩=>⟨j,cX _,h1,h2⟩)
 case step=>
  intro rec a _ ha hI kk
  dsimp only
  have hw2:=fF a (by omega)
  have ha1:(a:Int)<(d.length:Int):=by omega
  have ha2:(a:Int)<(c.length:Int):=by omega
  rw[cq ha1,dK a,aA ha2,dK a,aA ha1]
  by_cases e:(nth bS c (a:Int)).2.2.1=(nth bS d (a:Int)).2.2.1
  ·rw[aB (by simp[e]),hw2]
   refine kk () (hI.imp id fun⟨j,h1,h2,h3,h4⟩=>⟨j,?_,h2,h3,h4⟩)
   have:j≠a:=fun hj=>by
    subst hj
    rw[e] at h4
    exact absurd h4 (Int.lt_irrefl _)
   omega
  ·rw[aA (by simp[e]),dK a,aA ha2,dK a,aA ha1]
   refine⟨_,rfl,?_⟩
   rcases hI with h|⟨j,h1,h2,h3,h4⟩
   ·rw[h] at e;exact absurd rfl e
   ·by_cases hj:j=a
    ·subst hj
     exact bR h4
    ·have e2:nth bS c (a:Int)=nth bS d (a:Int):=by
      rw[←nM (l:=c) (show a<j by omega) (by omega),←nM (l:=d) (show a<j by omega) (by omega),h3]
     rw[e2] at e
     exact absurd rfl e
 case stop=>
  intro rec _ _
  dsimp only
  rw[eF (by omega)]
  exact⟨_,rfl,trivial⟩
theorem AA(
 w:aV) (hs:SA w.1.1) (q p d k:Int) (q0:0≤q) (q1:q≤255) (its:Zd) (hits:∀x∈its,0≤x∧x≤255):f4 w q p d k its=some true:=by
 have hB:=hB
 have nf:(!false)=true:=rfl
 unfold f4
 rw[qc,aD,aB (by decide)]
 obtain⟨r,e,hr⟩:=qk w hs.ss
 rw[e,aD]
 cases r with
 |false=>rw[aA (by decide),aD,aA rfl];rfl
 |
  true=>
  obtain⟨hT,hf⟩:=hr rfl
  obtain⟨r0,lo,er,hcg⟩:=nF hs
  have out:∀{U:Type}(f:U→Zm),aG (U:=U) (Option.bind (some true) fun v5=>if v5=true then(cN (some true)) else none) f=some true:=fun f=>rfl
  rw[aB (by decide)]
  by_cases z1:(w.1.1.2.2.2.1.length:Int)=0
  ·rw[cq z1,aD,aA rfl];rfl
  ·rw[aB (fun h=>
    z1 (bY h)),er,aD]
   by_cases z2:r0=0
   ·subst z2
    have hc:=hcg rfl
    rw[aB (by decide)]
    by_cases z3:p<0
    ·rw[cq z3,aD,aA rfl];rfl
    ·rw[aB (fun h=>z3 (bY h))]
     by_cases z4:(4095:Int)<p
     ·rw[cq z4,aD,aA rfl];rfl
     ·rw[aB (fun h=>z4 (bY h))]
      by_cases z5:d<0
      ·rw[cq z5,aD,aA rfl];rfl
      ·rw[aB (fun h=>z5 (bY h))]
       by_cases z6:(1023:Int)<d
       ·rw[bR z6,aD,aA rfl];rfl
       ·rw[cD z6,aD,aB (by decide),aC]
        dsimp only
        have hq:aQ q=q:=dR (by omega) (by omega)
        have hrl:w.1.1.2.2.2.1.length≤4:=hT.rules
        have t0:0≤Int.tmod q (w.1.1.2.2.2.1.length:Int):=Int.tmod_nonneg _ q0
        have t1:Int.tmod q (w.1.1.2.2.2.1.length:Int)<(w.1.1.2.2.2.1.length:Int):=Int.tmod_lt_of_pos _ (by omega)
        rw[hq,aA z1,aA t0,aA t1]
        generalize Int.tmod q (w.1.1.2.2.2.1.length:Int)=z at t0 t1
        have ez:((z.toNat:Nat):Int)=z:=by omega
        have hu:=bE (t:=bX) (l:=w.1.1.2.2.2.1) t0 t1
        generalize hue:nth bX w.1.1.2.2.2.1 z=u at hu ⊢
        have hR:RK (cR w.1.1 u):=hc.tg.rules u hu
        have hw:=hc.sw.rl u hu
        have p0:0≤p:=by omega
        have p1:p≤4095:=by omega
        have d0:0≤d:=by omega
        have d1:d≤1023:=by omega
        have hn3:u.2.2.1.length≤3:=hR.n3
        have s10:W (GM (Int.toNat (u.2.2.1.length:Int)+1) (p,d,k,its,z,u.2.2.1,(u.2.2.1.length:Int),(0:Int),w,w.1.1,u,([]:List In))) (CT (fun y=>∃l,y=(p,d,k,z,w,w.1.1,u,l)∧DC w lo d k u p u.2.2.1.length l) fun r=>r=true):=by
         refine bW (L:=GM) rfl _ u.2.2.1.length (fun c(l:List In)=>(p,d,k,its,z,u.2.2.1,(u.2.2.1.length:Int),(c:Int),w,w.1.1,u,l)) (fun c l=>DC w lo d k u p c l) ?step ?stop _ 0 [] (by omega) (by omega) ⟨rfl,cX _,fun j hj=>absurd hj (Nat.not_lt_zero _),cX _,fun j hj=>absurd hj (Nat.not_lt_zero _),fun j hj=>absurd hj (Nat.not_lt_zero _)⟩
         case step=>
          intro rec c l hc' hD kk
          dsimp only
          have hw2:=fF c (by omega)
          have hll:=hD.len
          obtain⟨o0,o1⟩:=oW hc.tg hR p0 p1 (l:=l) (by omega) hD.lg.vt
          have hF:FO (cR w.1.1 u) c:=hR.fo c hc'
          have hS:vS u c=(nth bG u.2.2.1 (c:Int)).2.2.1:=rfl
          have fin:∀i:Nat,i<bC (dM w) (vS u c)→W (Option.bind (mU w (nth bG u.2.2.1 (c:Int)).2.2.1 (bQ u p l) (i:Int) d k) fun⟨ag,ah,_⟩=>aG (U:=Int×Int×Int×Zd×Int×Bool×ZB×Int×Int×aV×bF×eU×jB×Zo) (Option.bind (GB w.1.1 (nth bG u.2.2.1 (c:Int)).2.2.1) fun y16=>if y16=true then(Option.bind (f9 w (nth bG u.2.2.1 (c:Int)).2.2.1 (bQ u p l) d k) fun⟨_,ai,aj⟩=>some (.aS (p,d,k,its,z,ai,u.2.2.1,(u.2.2.1.length:Int),(c:Int),w,w.1.1,u,aj,l))) else(some (.aS (p,d,k,its,z,ag,u.2.2.1,(u.2.2.1.length:Int),(c:Int),w,w.1.1,u,ah,l)))) fun⟨an,ao,ap,aq,ar,ak,au,av,aw,ax,ay,az,am,al⟩=>if(!ak)=true then(cN (some true)) else(if(List.length al+List.length [am])*48≤aF then(rec (an,ao,ap,aq,ar,au,av,aQ (aw+(1:Int)),ax,ay,az,al++[am])) else none)) (CT (fun y=>∃l,y=(p,d,k,z,w,w.1.1,u,l)∧DC w lo d k u p u.2.2.1.length l) fun r=>r=true):=fun i hi=>by
           have go:∀(b:Bool)(x:In),b=(Lk w lo d k (vS u c,(bQ u p l,((i:Int),())))).2.2.2.1→x=(Lk w lo d k (vS u c,(bQ u p l,((i:Int),())))).1→W (if(!b)=true then(cN (some true)) else(if(List.length l+List.length [x])*48≤aF then(rec (p,d,k,its,z,u.2.2.1,(u.2.2.1.length:Int),aQ ((c:Int)+(1:Int)),w,w.1.1,u,l++[x])) else none)) (CT (fun y=>∃l,y=(p,d,k,z,w,w.1.1,u,l)∧DC w lo d k u p u.2.2.1.length l) fun r=>r=true):=fun b x hb hx=>by
            cases b with
            |false=>rw[aA nf];exact⟨_,rfl,rfl⟩
            |
             true=>
             rw[aB (by decide),aA (by rw[bD];omega),hw2]
             exact kk _ (hD.push hc' hi hb.symm hx.symm (hx▸mV hc hT.fl d k _ _ _ _ (Nat.lt_succ_self _) (l7 hi o0 o1) hb.symm))
           rw[D2 hs hT hf,aD]
           dsimp only
           rw[sj hs.sw.rules,aD]
           by_cases hm:aO (.int .i64) .bool (nth bG u.2.2.1 (c:Int)).2.2.1 (bA (dM w))=true
           ·obtain⟨_,_,hi0⟩:=l7 hi o0 o1 hm
            obtain⟨rs,eo⟩:=Tg hs hT hf er hc (nth bG u.2.2.1 (c:Int)).2.2.1 (bQ u p l) d k (yD hm o0 o1 d0 d1)
            rw[aA hm,eo,aD,aC]
            dsimp only
            refine go _ _ ?_ ?_
            ·rw[hi0,hS]
            ·rw[hi0,hS]
           ·have e:=Av hc.rk.pre d k (vS u c,(bQ u p l,((i:Int),()))) hm
            rw[aB hm,aC]
            dsimp only
            exact go _ _ (by rw[e];rfl) (by rw[e];rfl)
          rw[cq (by omega),dK c,aA (show(c:Int)<(u.2.2.1.length:Int) by omega)]
          have ab:bQ u p l=if(nth bG u.2.2.1 (c:Int)).2.2.2.1.2.2.1= -1 then p else nR (nth bG u.2.2.1 (c:Int)).2.2.2.1 l:=by
           unfold bQ nR
           rw[hll]
           split
           ·rfl
           ·rfl
          have i0:(0:Nat)<bC (dM w) (vS u c):=by unfold bC;split<;>omega
          have m4:∀x:Int,0≤x→∃i:Nat,Int.tmod x 4=(i:Int)∧i<4:=fun x hx=>by
           have m0:0≤Int.tmod x 4:=Int.tmod_nonneg _ hx
           have m1:Int.tmod x 4<4:=Int.tmod_lt_of_pos _ (by omega)
           exact⟨(Int.tmod x 4).toNat,by omega,by omega⟩
          by_cases h1:(nth bG u.2.2.1 (c:Int)).2.2.2.1.2.2.1= -1
          ·have h1':¬(0:Int)≤(nth bG u.2.2.1 (c:Int)).2.2.2.1.2.2.1:=by rw[h1];decide
           rw[aA h1] at ab
           rw[ab] at fin
           rw[aB (fun h=>h1' (bY h)),aC]
           dsimp only
           by_cases g1:(c:Int)<(its.length:Int)
           ·rw[cq g1,sj hs.sw.rules,aD,aD]
            cases hm:aO (.int .i64) .bool (nth bG u.2.2.1 (c:Int)).2.2.1 (bA (dM w)) with
            |
             true=>
             rw[aB (by decide),aC]
             exact fin 0 i0
            |
             false=>
             rw[aA nf,dK c,aA g1,aC]
             dsimp only
             obtain⟨b0,b1⟩:=hits _ (bE (t:=.int .u8) (l:=its) (cu c) g1)
             obtain⟨i,ei,hi4⟩:=m4 _ b0
             rw[dR (by omega) (by omega),ei]
             refine fin i ?_
             unfold bC
             rw[hS,aB (by rw[hm];decide)]
             exact hi4
           ·rw[aB (fun h=>g1 (bY h)),aD,aB (by decide),aC]
            exact fin 0 i0
          ·have hI:EI (cR w.1.1 u) (nth bG u.2.2.1 (c:Int)).2.2.2.1 (c:Int):=hF.of.resolve_left h1
           have v0:=hI.v0
           rw[aB h1] at ab
           rw[ab] at fin
           rw[cq v0,sh hc.tg hD.lg (by omega) hI,aD]
           dsimp only
           rw[aB (by decide),aC]
           dsimp only
           by_cases g1:(c:Int)<(its.length:Int)
           ·rw[cq g1,sj hs.sw.rules,aD,aD]
            cases hm:aO (.int .i64) .bool (nth bG u.2.2.1 (c:Int)).2.2.1 (bA (dM w)) with
            |
             true=>
             rw[aB (by decide),aC]
             exact fin 0 i0
            |
             false=>
             rw[aA nf,dK c,aA g1,aC]
             dsimp only
             obtain⟨b0,b1⟩:=hits _ (bE (t:=.int .u8) (l:=its) (cu c) g1)
             obtain⟨i,ei,hi4⟩:=m4 _ b0
             rw[dR (by omega) (by omega),ei]
             refine fin i ?_
             unfold bC
             rw[hS,aB (by rw[hm];decide)]
             exact hi4
           ·rw[aB (fun h=>g1 (bY h)),aD,aB (by decide),aC]
            exact fin 0 i0
         case stop=>
          intro rec l hD
          dsimp only
          rw[eF (by omega)]
          exact⟨_,rfl,l,rfl,hD⟩
        obtain⟨r10,e10,h10⟩:=s10
        rw[e10]
        cases r10 with
        |
         ret r=>
         have h10:r=true:=h10
         subst h10
         rfl
        |
         aS y=>
         obtain⟨l,rfl,hD⟩:=h10
         rw[aC]
         dsimp only
         have hlen:=hD.len
         have s29:W (GN (Int.toNat (u.2.2.2.1.length:Int)+1) (p,d,k,z,u.2.2.2.1,(u.2.2.2.1.length:Int),(0:Int),w,w.1.1,u,l)) (CT (fun y=>y=(p,d,k,z,w,u,l)∧u.2.2.2.1.all (nS w.1.1 u l)=true) fun r=>r=true):=by
          refine W.mono (gu (L:=GN) rfl (fun c(_:Unit)(r:dN _ _)=>CT (fun y=>y=(p,d,k,z,w,u,l)∧(u.2.2.2.1.drop c).all (nS w.1.1 u l)=true) (fun r=>r=true) r) u.2.2.2.1.length (fun c(_:Unit)=>(p,d,k,z,u.2.2.2.1,(u.2.2.2.1.length:Int),(c:Int),w,w.1.1,u,l)) (fun _ _=>True) ?step ?stop _ 0 () (by omega) (by omega) trivial) fun r hr=>hr
          case step=>
           intro rec c _ hc' _ kk
           dsimp only
           have kk:=kk () trivial
           have hw2:=fF c (by omega)
           have apM:=bE (t:=cH) (l:=u.2.2.2.1) (cu c) (show(c:Int)<(u.2.2.2.1.length:Int) by omega)
           have hm:ml (cR w.1.1 u) (nth cH u.2.2.2.1 (c:Int)).2.1∧ml (cR w.1.1 u) (nth cH u.2.2.2.1 (c:Int)).2.2.1:=hR.wh _ apM
           have hd:(u.2.2.2.1.drop c).all (nS w.1.1 u l)=(nS w.1.1 u l (nth cH u.2.2.2.1 (c:Int))&&(u.2.2.2.1.drop (c+1)).all (nS w.1.1 u l)):=by
            rw[iA hc',List.all_cons,cJ (t:=cH) hc']
           rw[hd,cq (by omega),dK c,aA (show(c:Int)<(u.2.2.2.1.length:Int) by omega)]
           generalize nth cH u.2.2.2.1 (c:Int)=a at hm
           obtain⟨g1,g2⟩:=D1 (l:=l) hm.1 hm.2
           rw[Me hc.tg hD.lg hlen hm.1,aD]
           dsimp only
           rw[Me hc.tg hD.lg hlen hm.2,aD]
           dsimp only
           have fin:∀y' z':Int,nS w.1.1 u l a=sc a.1 y' z'→W (aG (U:=Int×Int×Int×Int×Int×Int×(ZE)×Int×Int×aV×bF×eU×zT×(List In)) (Option.bind (α:=Bool) (if(!true)=true then(some true) else(some (!true))) fun v26=>if v26=true then(cN (cN (some false))) else(some (.aS (p,d,k,z,y',z',u.2.2.2.1,(u.2.2.2.1.length:Int),(c:Int),w,w.1.1,u,a,l)))) fun⟨z,aa,ab,ac,x,y,ad,ae,af,ag,ah,ai,w,aj⟩=>Option.bind (wc w.1 x y) fun y27=>if(!y27)=true then(cN (some true)) else(rec (z,aa,ab,ac,ad,ae,aQ (af+(1:Int)),ag,ah,ai,aj))) (CT (fun y=>y=(p,d,k,z,w,u,l)∧(nS w.1.1 u l a&&(u.2.2.2.1.drop (c+1)).all (nS w.1.1 u l))=true) fun r=>r=true):=fun y' z' e=>by
            rw[aB (by decide),aD,aB (by decide),aC]
            dsimp only
            rw[nJ,←e,aD,hw2]
            cases nS w.1.1 u l a with
            |false=>rw[aA nf];exact⟨_,rfl,rfl⟩
            |true=>rw[aB (by decide),Bool.true_and];exact kk
           by_cases h1:0≤a.2.1.2.2.1
           ·rw[cq h1]
            by_cases h2:0≤a.2.2.1.2.2.1
            ·rw[bR h2,aD,aA rfl,aC]
             exact fin _ _ (g1 ⟨h1,h2⟩)
            ·rw[cD h2,aD,aB (by decide),aC]
             exact fin _ _ (g2 fun h=>h2 h.2)
           ·rw[aB (fun h=>h1 (bY h)),aD,aB (by decide),aC]
            exact fin _ _ (g2 fun h=>h1 h.1)
          case stop=>
           intro rec _ _
           dsimp only
           rw[eF (by omega),List.drop_length]
           exact⟨_,rfl,rfl,rfl⟩
         obtain⟨r29,e29,h29⟩:=s29
         rw[e29]
         cases r29 with
         |
          ret r=>
          have h29:r=true:=h29
          subst h29
          rfl
         |
          aS y=>
          obtain⟨rfl,hat⟩:=h29
          rw[aC]
          dsimp only
          have hold:gp w.1.1 u l=true:=by rw[w7 hc.sw.nb hw.2.1 hR hD.lg.lv hlen];exact hat
          have hCS:CS (Lk w lo d k) w.1.1 (dM w) u p u.2.2.1.length [] l:=⟨by rw[fO,ek];exact hlen,rfl,hold,fun j _ hj=>hD.each j hj⟩
          have hm:aO (.int .i64) .bool u.2.1 (bA (dM w))=true:=(vJ u.2.1).2 ⟨u,hu,rfl⟩
          obtain⟨l',hl',hle⟩:=KA u.2.2.1.length [] l (fun j _ hj i hi hk=>by
           rw[fO,ek] at hj
           have hlt:(l.take j).length=j:=by rw[gE];omega
           have hv:=hD.lg.take (j:=j) (by omega)
           obtain⟨o0,o1⟩:=oW hc.tg hR p0 p1 (l:=l.take j) (by omega) hv.vt
           exact(mV hc hT.fl d k _ _ _ _ (Nat.lt_succ_self _) (l7 hi o0 o1) hk).itm) hCS
          have hue':nth bX w.1.1.2.2.2.1 ((z.toNat:Nat):Int)=u:=by rw[ez];exact hue
          obtain⟨e,_,he,hche,er2⟩:=DZ (ch:=fun u=>BQ (Lk w lo d k) w.1.1 (dM w) u p u.2.2.1.length []) (bd:=fun u l=>cK w.1.1 u p l) (R:=w.1.1.2.2.2.1) (a:=u.2.1) z.toNat (by rw[hue']) (by rw[hue'];exact congrArg Prod.fst hl') w.1.1.2.2.2.1.length 0 (cX _) (by omega)
          have eL:=(Au hc.rk.pre d k (u.2.1,(p,((0:Int),()))) hm).trans er2
          have hi:eS (decide ((0:Int)=0)) (dM w) u.2.1 p d=true:=yD hm p0 p1 d0 d1
          obtain⟨rs,eo⟩:=Tg hs hT hf er hc u.2.1 p d k hi
          obtain⟨x,x1,x2⟩:=Md hs hT hf er (fun _=>hc) u.2.1 p d k
          rw[aA hi,vK] at x2
          have x2:x=Lk w lo d k (u.2.1,(p,((0:Int),()))):=x2
          rw[eo,aD]
          dsimp only
          rw[x1,aD,x2,eL]
          dsimp only
          have nlt:¬z<(e:Int):=by omega
          rw[aB (by decide),aB (by decide),cD nlt,aD,aB (by decide),aC]
          dsimp only
          by_cases hez:(e:Int)<z
          ·rw[cq hez]
          ·have ee:e=z.toNat:=by omega
           rw[aB (fun h=>hez (bY h)),ee,hue',hl']
           dsimp only
           have hll:l'.length=l.length:=hle.elim (fun h=>by rw[h]) fun h=>h.1
           rw[aB (by simp[hll])]
           obtain⟨r49,e49,h49⟩:=Oq l' l hle (by omega)
           rw[e49]
           cases r49 with
           |
            ret r=>
            have h49:r=true:=h49
            subst h49
            rfl
           |aS y=>rw[aC]
   ·rw[aA (by simpa using z2),aD,aA rfl];rfl
theorem pl4(a0:aV)(a1 a2 a3 a4:Int)(a5:Zd)(af0:wf gH a0)(af1:wf (.int .u8) a1)(_af2:wf (.int .i64) a2)(_af3:wf (.int .i64) a3)(_af4:wf (.int .i64) a4)(af5:wf (.slice 1 (.int .u8)) a5):f4 a0 a1 a2 a3 a4 a5=some true:=
 AA a0 (zX af0.1.1) a1 a2 a3 a4 af1.1 af1.2 a5 fun x hx=>(af5.2.2 x hx)
end Go.Proofs.YtkhfnbfpgcjllaaGreatDoor
