/- part -/
import Derived.Test.YtkhfnbfpgcjllaaGreatDoorP1
import Derived.Test.YtkhfnbfpgcjllaaGreatDoorUL
import Derived.Test.YtkhfnbfpgcjllaaGreatDoorA5
import Derived.Test.YtkhfnbfpgcjllaaGreatDoorFT
import Derived.Test.YtkhfnbfpgcjllaaGreatDoorUn
import Derived.Test.YtkhfnbfpgcjllaaGreatDoorUo
import Derived.Test.YtkhfnbfpgcjllaaGreatDoorFW
import Derived.Test.YtkhfnbfpgcjllaaGreatDoorS6
noncomputable section
namespace Go.Proofs.YtkhfnbfpgcjllaaGreatDoor
open Go.Ax
theorem kB{t:jx}{n:Int}(h:GF t n=some true):t.2.2.2.2.1= -1:=by
 unfold GF at h
 obtain⟨v,hv,h⟩:=bind_some h
 cases h
 split at hv
 ·split at hv
  ·split at hv
   ·rename_i e;exact bY e
   ·cases hv
  ·cases hv
 ·cases hv
theorem kC{t:jx}{n:Int}(h:GD t n=some true):t.2.2.2.2.1= -1:=by
 unfold GD at h
 obtain⟨v,hv,h⟩:=bind_some h
 cases h
 split at hv
 ·split at hv
  ·split at hv
   ·rename_i e;exact bY e
   ·cases hv
  ·cases hv
 ·cases hv
theorem kD{t:jx}{n:Int}(h:GC t n=some true):t.2.2.2.2.1= -1:=by
 unfold GC at h
 obtain⟨v,hv,h⟩:=bind_some h
 cases h
 split at hv
 ·split at hv
  ·split at hv
   ·rename_i e;exact bY e
   ·cases hv
  ·cases hv
 ·cases hv
theorem ud{x:Zm}{b:Bool}(h:(Option.bind x fun y=>some y)=some b):x=some b:=by
 cases x with
 |none=>cases h
 |some a=>exact h
theorem iM{c:kU}{t:jx}(h:uB c t=some true):t.2.2.2.2.1<(c.1.2.1.length:Int):=by
 have neg:t.2.2.2.2.1= -1→t.2.2.2.2.1<(c.1.2.1.length:Int):=fun e=>by omega
 by_cases e1:t.1=1
 ·exact(mj h e1).2
 ·unfold uB at h
  by_cases h1:t.1<1
  ·rw[cq h1] at h;cases h
  ·by_cases h2:(4:Int)<t.1
   ·rw[aB (by simpa using h1),bR h2] at h;cases h
   ·rw[aB (by simpa using h1),cD h2,aD,aB (by decide),aC] at h
    dsimp only at h
    rw[aA (by omega),aA (by omega),aB (by omega),aB e1] at h
    by_cases e2:t.1=2
    ·rw[aA e2] at h;exact neg (kB (ud h))
    ·rw[aB e2] at h
     by_cases e3:t.1=3
     ·rw[aA e3] at h;exact neg (kC (ud h))
     ·rw[aB e3,aA (by omega)] at h;exact neg (kD (ud h))
theorem kE(c:kU)(hN:NB c.1)(r:np):∃b y,K7 c r=some (b,y)∧(b=true→y.2.2.2.2.1<(c.1.2.1.length:Int)):=by
 unfold K7
 rcases gG c r.2.2.1 r.2.2.2.1 with⟨hi,e⟩|⟨_,y,e⟩
 ·rw[e,aD]
  dsimp only
  rw[aB (by decide)]
  have hm:=hi.mem
  obtain⟨q,hq⟩:=lJ c (nth cS (aP c.1 r.2.2.1) r.2.2.2.1).2.1 ((hN _ hm.1).2 _ hm.2)
  rw[hq,aD]
  cases q with
  |false=>exact⟨false,_,rfl,fun h=>(by cases h)⟩
  |
   true=>
   rw[aB (by decide)]
   have hu:=iM hq
   by_cases h0:0≤(nth cS (aP c.1 r.2.2.1) r.2.2.2.1).2.1.2.2.2.2.1
   ·rw[cq h0,aA h0,aA hu]
    obtain⟨z,hz⟩:=lK c (nth bB c.1.2.1 (nth cS (aP c.1 r.2.2.1) r.2.2.2.1).2.1.2.2.2.2.1)
    rw[hz,aD]
    cases z with
    |false=>exact⟨false,_,rfl,fun h=>(by cases h)⟩
    |true=>exact⟨true,_,rfl,fun _=>hu⟩
   ·rw[aB (show¬decide ((0:Int)≤(nth cS (aP c.1 r.2.2.1) r.2.2.2.1).2.1.2.2.2.2.1)=true by simpa using h0)]
    exact⟨true,_,rfl,fun _=>hu⟩
 ·rw[e,aD]
  exact⟨false,_,rfl,fun h=>(by cases h)⟩
theorem lk(s:bF)(hN:NB s)(r:np)(n:Int):∃p,f32 s r n=some p:=by
 unfold f32
 obtain⟨b,y,e,hu⟩:=kE (s,()) hN r
 rw[e,aD]
 dsimp only
 cases b with
 |false=>exact⟨_,rfl⟩
 |
  true=>
  rw[aB (by decide)]
  by_cases h1:n<0
  ·rw[cq h1];exact⟨_,rfl⟩
  ·rw[aB (show¬decide (n<(0:Int))=true by simpa using h1)]
   by_cases h2:(1048576:Int)<n
   ·rw[bR h2];exact⟨_,rfl⟩
   ·rw[cD h2,aD,aB (by decide),aC]
    dsimp only
    by_cases h0:0≤y.2.2.2.2.1
    ·rw[cq h0,aA h0,aA (hu rfl)];exact⟨_,rfl⟩
    ·rw[aB (show¬decide ((0:Int)≤y.2.2.2.2.1)=true by simpa using h0)];exact⟨_,rfl⟩
theorem dO(a b c:Int):∃r,wc a b c=some r:=by
 unfold wc
 repeat' (first|exact⟨_,rfl⟩|split)
def FV(s:bF)(PS:Zd)(x:jB)(a:Int):Prop:=x.2.2.2.1.length=(aP s a).length∧∀v∈x.2.2.2.1,v∈PS
structure LI(s:bF)(PS:Zd)(u:eU)(l:Zo):Prop where
 len:l.length≤u.2.2.1.length
 ok:∀x:Int,0≤x→x<(l.length:Int)→FV s PS (nth bS l x) (nth bG u.2.2.1 x).2.2.1
theorem LI.nil(s:bF)(PS:Zd)(u:eU):LI s PS u []:=⟨cX _,fun x h0 h1=>by rw[fO] at h1;omega⟩
theorem LI.push{s:bF}{PS:Zd}{u:eU}{l:Zo}(h:LI s PS u l){x:jB}(hl:l.length<u.2.2.1.length)(hx:FV s PS x (nth bG u.2.2.1 (l.length:Int)).2.2.1):LI s PS u (l++[x]):=by
 refine⟨by rw[cz,bD];omega,fun j h0 h1=>?_⟩
 rw[cz,bD] at h1
 have e:j=(j.toNat:Int):=by omega
 by_cases hj:j<(l.length:Int)
 ·have h2:=h.ok j h0 hj
  rw[e,cJ (t:=bS) (by rw[cz];omega),ze (by omega)]
  rw[e,cJ (t:=bS) (by omega)] at h2
  exact h2
 ·have ej:j.toNat=l.length:=by omega
  have ej':j=(l.length:Int):=by omega
  rw[ej',cJ (t:=bS) (by rw[cz,bD];omega),uP (cV _)]
  simp only[Nat.sub_self,List.getElem_singleton]
  exact hx
abbrev cR(s:bF)(u:eU):iw:=((s,()),(u,()))
theorem gI{s:bF}{PS:Zd}{u:eU}{l:Zo}(hL:LI s PS u l){t:gQ}{n:Int}(hn:n≤(l.length:Int))(h:EI (cR s u) t n):
 0≤t.2.2.1∧t.2.2.1<(l.length:Int)∧0≤t.2.2.2.1∧t.2.2.2.1<((nth bS l t.2.2.1).2.2.2.1.length:Int)∧nth (.int .i64) (nth bS l t.2.2.1).2.2.2.1 t.2.2.2.1∈PS:=by
 have hv:t.2.2.1<(l.length:Int):=Int.lt_of_lt_of_le h.v1 hn
 obtain⟨h1,h2⟩:=hL.ok _ h.v0 hv
 have hb:=h.f.b1
 have hb:t.2.2.2.1<((nth bS l t.2.2.1).2.2.2.1.length:Int):=by rw[h1];exact hb
 exact⟨h.v0,hv,h.f.b0,hb,h2 _ (bE (t:=.int .i64) h.f.b0 hb)⟩
theorem qf{s:bF}{PS:Zd}{u:eU}{l:Zo}(hL:LI s PS u l)(hl:l.length=u.2.2.1.length){t:gQ}(ht:ml (cR s u) t):
 ∃v,sC t l=some v∧(v∈PS∨t.2.2.1= -1∧v=t.2.2.2.2.1):=by
 unfold sC
 by_cases h:t.2.2.1= -1
 ·rw[cq h];exact⟨_,rfl,Or.inr ⟨h,rfl⟩⟩
 ·rcases ht with hi|hi
  ·obtain⟨a1,a2,a3,a4,a5⟩:=gI hL (by rw[hl];exact fQ _) hi
   rw[aB (show¬decide (t.2.2.1=(-1:Int))=true by simpa using h),aA a1,aA a2,aA a3,aA a4]
   exact⟨_,rfl,Or.inl a5⟩
  ·exact absurd hi h
theorem jH(day:Int){L:Zh}:∀(l:Zh)(s:Nx),(∀f∈l,f∈L)→(s.2=true→s.1∈L)→((l.foldl (gj day) s).2=true→(l.foldl (gj day) s).1∈L)
 |[],s,_,hs=>hs
 |
  f::l,s,hl,hs=>by
  rw[List.foldl_cons]
  refine jH day l _ (fun x hx=>hl x (dH _ hx)) ?_
  unfold gj
  split
  ·exact fun _=>hl f (dx ..)
  ·exact hs
theorem qg{l:Zh}{k:hJ}{day known:Int}(h:(fk l k day known).2=true):∃f∈l,f.2.1=(fk l k day known).1:=by
 have hm:=jH day (L:=l) (l.filter (cL k known)) (zF,false) (fun x hx=>(List.mem_filter.1 hx).1) (fun h=>by cases h)
 have e:(l.filter (cL k known)).foldl (gj day) (zF,false)=iQ k day known l (zF,false):=rfl
 rw[e] at hm
 unfold fk at h ⊢
 dsimp only at h ⊢
 split at h
 ·rename_i hc
  rw[aA hc]
  exact⟨_,hm hc.1,rfl⟩
 ·cases h
theorem kF(l:Zh)(k:hJ)(day known:Int)(hl:l.length≤aF):∃v b,rX l k day known=some (v,b)∧(b=true→∃f∈l,f.2.1=v):=by
 unfold rX
 rw[aA hl]
 exact⟨_,_,rfl,qg⟩
theorem dP(s:bF)(hr:s.2.2.2.1.length≤aF)(a:Int):∃b,KR s a=some b∧(b=true→0≤a∧a<(s.2.2.1.length:Int)∧2≤(aP s a).length):=by
 have hB:=hB
 have no:∀y:Zm,y=some false→∃r,y=some r∧(r=true→0≤a∧a<(s.2.2.1.length:Int)∧2≤(aP s a).length):=fun y hy=>⟨false,hy,fun h=>(by cases h)⟩
 unfold KR
 by_cases h0:a<0
 ·rw[cq h0];exact no _ rfl
 ·rw[aB (show¬decide (a<(0:Int))=true by simpa using h0)]
  by_cases h1:(s.2.2.1.length:Int)≤a
  ·rw[cq h1];exact no _ rfl
  ·rw[aB (show¬decide ((s.2.2.1.length:Int)≤a)=true by simpa using h1),aA (Int.not_lt.1 h0),aA (Int.not_le.1 h1)]
   have e:(nth aU s.2.2.1 a).2.2.2.2.1=aP s a:=rfl
   rw[e]
   by_cases h2:((aP s a).length:Int)<2
   ·rw[bR h2];exact no _ rfl
   ·rw[cD h2,aD,aB (by decide),aC]
    dsimp only
    have yes:∀y:Zm,(∃z,y=some z)→∃z,y=some z∧(z=true→0≤a∧a<(s.2.2.1.length:Int)∧2≤(aP s a).length):=fun y ⟨z,hz⟩=>⟨z,hz,fun _=>⟨Int.not_lt.1 h0,Int.not_le.1 h1,by omega⟩⟩
    apply yes
    suffices hW:W (aG (U:=Int×Zr) (qG (Int.toNat (List.length s.2.2.2.1:Int)+1) (a,s.2.2.2.1,(List.length s.2.2.2.1:Int),(0:Int),([]:Zr))) (fun x=>some (!(aO (.int .i64) .bool x.1 x.2)))) (fun _=>True) by
     obtain⟨r,hr,_⟩:=hW
     exact⟨r,hr⟩
    refine aZ.2 (W.ct (bW (L:=qG) rfl (CT (fun _=>True) fun _=>True) s.2.2.2.1.length (fun c(d:Zr)=>(a,s.2.2.2.1,(s.2.2.2.1.length:Int),(c:Int),d)) (fun c d=>d.length≤c) ?step ?stop _ 0 [] (by omega) (by omega) (cV _)) (fun d h=>⟨_,rfl,trivial⟩) fun r h=>trivial)
    case step=>
     intro rec c d hc hd kk
     dsimp only
     have hw2:=fF c (by omega)
     rw[cq (by omega),dK c,aA (show(c:Int)<(s.2.2.2.1.length:Int) by omega),aA (show d.length+1≤aF by omega),hw2]
     exact kk _ (cW (dp (kt:=.int .i64)) (by omega))
    case stop=>
     intro rec d hd
     dsimp only
     rw[eF (by omega)]
     exact⟨_,rfl,trivial⟩
theorem kG{PS:Zd}(v:aV)(s:bF)(hN:NB s)(hl:v.2.1.length≤aF)(hPS:∀f∈v.2.1,f.2.1∈PS)(m a p i d k:Int)(rs:Zi)(hr:(rs.length+1)*40≤aF):
 ∃c b rs',jq m a p i d v k s rs=some (c,b,a,p,i,d,v,k,s,rs')∧rs'.length=rs.length+1∧(b=true→c∈PS):=by
 unfold jq Pb
 rw[aD,aA (by rw[bD];exact hr)]
 obtain⟨x,b,e,hb⟩:=kF v.2.1 (a,(p,(aQ ((aQ ((16:Int)*i))+m),()))) d k hl
 rw[e,aD]
 dsimp only
 cases b with
 |false=>exact⟨_,false,_,rfl,by rw[cz,bD],fun h=>(by cases h)⟩
 |
  true=>
  obtain⟨f,hf,rfl⟩:=hb rfl
  obtain⟨q,hq⟩:=jQ s hN a m f.2.1
  rw[aA rfl,hq]
  exact⟨_,q,_,rfl,by rw[cz,bD],fun _=>hPS f hf⟩
theorem nr{PS:Zd}(v:aV)(hN:NB v.1.1)(hR:v.1.1.2.2.2.1.length≤aF)(hF:∀a,0≤a→a<(v.1.1.2.2.1.length:Int)→(aP v.1.1 a).length≤1000)(hl:v.2.1.length≤aF)(hPS:∀f∈v.2.1,f.2.1∈PS)(a p i d k:Int)(hp:p∈PS):
 W (mU v a p i d k) fun r=>r.2.2.length≤1000∧(r.1=true→FV v.1.1 PS r.2.1 a):=by
 have hB:=hB
 unfold mU
 obtain⟨b,e,hb⟩:=dP v.1.1 hR a
 rw[e,aD]
 have no:∀(z:jB),(([]:Zi).length≤1000∧((false:Bool)=true→FV v.1.1 PS z a)):=fun z=>⟨cX _,fun h=>(by cases h)⟩
 cases b with
 |false=>exact⟨_,rfl,no _⟩
 |
  true=>
  obtain⟨a0,a1,a2⟩:=hb rfl
  rw[aB (by decide)]
  have hs:∃z,wa p i=some z:=by
   unfold wa
   refine gK ?_ fun v=>⟨v,rfl⟩
   repeat' (first|exact⟨_,rfl⟩|split)
  obtain⟨z,hz⟩:=hs
  rw[hz,aD]
  cases z with
  |false=>exact⟨_,rfl,no _⟩
  |
   true=>
   rw[aB (by decide)]
   by_cases d0:d<0
   ·rw[cq d0];exact⟨_,rfl,no _⟩
   ·rw[aB (show¬decide (d<(0:Int))=true by simpa using d0)]
    by_cases d1:(1024:Int)≤d
    ·rw[bR d1];exact⟨_,rfl,no _⟩
    ·rw[cD d1,aD,aB (by decide),aC]
     dsimp only
     have hFa:=hF a a0 a1
     have e:(nth aU v.1.1.2.2.1 a).2.2.2.2.1=aP v.1.1 a:=rfl
     refine aZ.2 (W.ct (bW (L:=pK) rfl (CT (fun r=>∃t s,r=(a,p,i,(0:Int),(0:Int),(0:Int),t,s)∧s.length≤1000∧t.length=(aP v.1.1 a).length∧∀x∈t,x∈PS) fun r=>r.1=false∧r.2.2.length≤1000) (aP v.1.1 a).length (fun c(u:Zd×Zi)=>((c:Int),v,a,p,i,d,k,(0:Int),(0:Int),(0:Int),v.1.1,u.1,u.2)) (fun c u=>u.1.length=c∧u.2.length≤c∧∀x∈u.1,x∈PS) ?step ?stop dA 1 ([p],[]) (by show _<18446744073709551616;omega) (by omega) ⟨rfl,cX _,fun x hx=>(by rw[List.mem_singleton.1 hx];exact hp)⟩) (fun r h=>?_) fun r h=>?_)
     case step=>
      rintro rec c ⟨t,s⟩ hc ⟨ht,hs,hP⟩ kk
      dsimp only at ht hs hP ⊢
      have hw2:=fF c (by omega)
      rw[e,aA a0,aA a1,cq (by omega)]
      obtain⟨x,b,s',e2,hs',hx⟩:=kG v v.1.1 hN hl hPS (c:Int) a p i d k s (by omega)
      rw[e2,aD]
      dsimp only
      cases b with
      |false=>exact⟨_,rfl,rfl,by show s'.length≤1000;omega⟩
      |
       true=>
       rw[aB (by decide),aA (show(t.length+List.length [x])*8≤aF by rw[bD];omega),hw2]
       refine kk (t++[x],s') ⟨by rw[cz,bD,ht],by show s'.length≤c+1;omega,fun y hy=>?_⟩
       rcases List.mem_append.1 hy with h|h
       ·exact hP y h
       ·rw[List.mem_singleton.1 h];exact hx rfl
     case stop=>
      rintro rec ⟨t,s⟩ ⟨ht,hs,hP⟩
      dsimp only at ht hs hP ⊢
      rw[e,aA a0,aA a1,eF (by omega)]
      exact⟨_,rfl,t,s,rfl,by omega,ht,hP⟩
     ·obtain⟨t,s,rfl,h1,h2,h3⟩:=h
      exact⟨_,rfl,h1,fun _=>⟨h2,h3⟩⟩
     ·exact⟨h.2,fun h'=>by rw[h.1] at h';cases h'⟩
theorem fK:∀(rs:Zi)(se:Zj)(acc:Zi),se.length+rs.length≤aF→(acc.length+rs.length)*40≤aF→∃s' a',eT rs se acc=some (s',a')∧s'.length≤se.length+rs.length∧a'.length≤acc.length+rs.length
 |[],se,acc,_,_=>⟨se,acc,rfl,cV _,cV _⟩
 |
  r::rs,se,acc,h1,h2=>by
  rw[da] at h1 h2 ⊢
  unfold eT
  split
  ·obtain⟨s',a',e,q1,q2⟩:=fK rs se acc (by omega) (by omega)
   exact⟨s',a',e,by omega,by omega⟩
  ·have hm:(bK bN r true se).length≤se.length+1:=dp
   rw[aA (by omega),aA (by omega)]
   obtain⟨s',a',e,q1,q2⟩:=fK rs (bK bN r true se) (acc++[r]) (by omega) (by rw[cz,bD];omega)
   rw[cz,bD] at q2
   exact⟨s',a',e,by omega,by omega⟩
abbrev Pl:=hJ
abbrev FM:=Zk
abbrev SM:=Zj
abbrev DM:=Ze
def IX(PS:Zd)(ix:Ix):Prop:=∀key,(aO aR (.slice 64 aN) key (bA ix)).length≤1000000∧∀f∈aO aR (.slice 64 aN) key (bA ix),f.2.1∈PS
structure WX(w:aV)(lo:Zd)(PS:Zd)(U:List Pl)(ix:Ix):Prop where
 cg:CG w.1.1 lo
 zero:(0:Int)∈PS
 consts:∀u∈w.1.1.2.2.2.1,∀t∈u.2.2.2.2.1,t.2.2.1.2.2.2.2.1∈PS
 pl:∀a p i:Int,0≤a→a<(w.1.1.2.2.1.length:Int)→p∈PS→0≤i→i<4→(a,(p,(i,())))∈U
 len:U.length≤1000000
 fl:∀a,0≤a→a<(w.1.1.2.2.1.length:Int)→(aP w.1.1 a).length≤1000
 ix:IX PS ix
structure WY(w:aV)(PS:Zd)(U:List Pl)(ix:Ix):Prop where
 sw:SW w.1.1
 len:U.length≤1000000
 fl:∀a,0≤a→a<(w.1.1.2.2.1.length:Int)→(aP w.1.1 a).length≤1000
 ix:IX PS ix
theorem WX.y{w:aV}{lo PS:Zd}{U:List Pl}{ix:Ix}(h:WX w lo PS U ix):WY w PS U ix:=⟨h.cg.sw,h.len,h.fl,h.ix⟩
structure FI(s:bF)(PS:Zd)(U:List Pl)(fo:FM)(se:SM)(rs:Zi):Prop where
 oK:(fo.map (·.1)).Nodup
 sub:∀e∈fo,e.1∈U
 ok:∀e∈fo,e.2.2.2.2.1=true→FV s PS e.2.1 e.1.1
 se:se.length≤1000*fo.length
 rs:rs.length≤1000*fo.length
theorem jS{α:Type}:∀(l L:List α),l.Nodup→(∀x∈l,x∈L)→l.length≤L.length:=by
 classical
 intro l
 induction l with
 |nil=>intro L _ _;exact cX _
 |
  cons a l ih=>
  intro L hn hs
  have ha:=hs a (dx ..)
  have h:=ih (L.erase a) (List.nodup_cons.1 hn).2 fun x hx=>(List.mem_erase_of_ne (fun e:x=a=>(List.nodup_cons.1 hn).1 (e▸hx))).2 (hs x (dH _ hx))
  rw[List.length_erase_of_mem ha] at h
  have hp:=List.length_pos_of_mem ha
  rw[da]
  omega
theorem FI.len{s:bF}{PS:Zd}{U:List Pl}{fo:FM}{se:SM}{rs:Zi}(h:FI s PS U fo se rs):fo.length≤U.length:=by
 have:=jS _ U h.oK fun x hx=>by
  obtain⟨e,he,rfl⟩:=List.mem_map.1 hx
  exact h.sub e he
 rwa [gv] at this
theorem ll{α:Type}{kt:Ty}{k:kt.den}{y:α}:∀{es:List (kt.den×α)},es.length≤(bK kt k y es).length
 |[]=>cX _
 |
  e::es=>by
  unfold bK
  split
  ·exact cV _
  ·rw[da,da];exact Nat.succ_le_succ ll
theorem FI.put{s:bF}{PS:Zd}{U:List Pl}{fo:FM}{se:SM}{rs:Zi}(h:FI s PS U fo se rs){p:Pl}(hp:p∈U){x:xw}(hx:x.2.2.2.1=true→FV s PS x.1 p.1){se':SM}{rs':Zi}
 (h1:se'.length≤1000*(bK aR p x fo).length) (h2:rs'.length≤1000*(bK aR p x fo).length):FI s PS U (bK aR p x fo) se' rs' where
 oK:=fJ (kt:=aR) rfl h.oK
 sub e he:=by
  rcases dC (kt:=aR) he with rfl|he
  ·exact hp
  ·exact h.sub e he
 ok e he:=by
  rcases dC (kt:=aR) he with rfl|he
  ·exact hx
  ·exact h.ok e he
 se:=h1
 rs:=h2
theorem FI.nil(s:bF)(PS:Zd)(U:List Pl):FI s PS U [] [] []:=
 ⟨List.nodup_nil,fun e he=>(by cases he),fun e he=>(by cases he),cV _,cV _⟩
theorem jI{w:aV}{PS:Zd}{U:List Pl}{ix:Ix}(hw:WY w PS U ix)(p:Pl)(d k:Int)(b:Bool)(m:DM)(z:Unit)(fo:FM)(se:SM)(rs:Zi):
 ∃L:Zh,d9 p w ix d k b m z fo se rs=some (w,ix,d,k,b,m,z,fo,se,rs,(w.1,(L,())))∧L.length≤1000*1000000∧∀f∈L,f.2.1∈PS:=by
 have hB:=hB
 suffices hW:W (d9 p w ix d k b m z fo se rs) fun r=>∃L:Zh,r=(w,ix,d,k,b,m,z,fo,se,rs,(w.1,(L,())))∧L.length≤1000*1000000∧∀f∈L,f.2.1∈PS by
  obtain⟨r,e,L,rfl,h⟩:=hW
  exact⟨L,e,h⟩
 have nil:∀f∈([]:Zh),f.2.1∈PS:=fun f hf=>(by cases hf)
 unfold d9
 by_cases h0:0≤p.1
 ·rw[cq h0]
  by_cases h1:p.1<(w.1.1.2.2.1.length:Int)
  ·rw[bR h1,aD,aA rfl,aA h0,aA h1]
   have e:(nth aU w.1.1.2.2.1 p.1).2.2.2.2.1=aP w.1.1 p.1:=rfl
   have hF:=hw.fl _ h0 h1
   rw[e]
   refine aZ.2 (W.ct (bW (L:=iT) rfl (CT (fun r=>∃L:Zh,r=(w,ix,d,k,b,m,z,fo,se,rs,w.1,L)∧L.length≤1000*1000000∧∀f∈L,f.2.1∈PS) fun _=>False) (aP w.1.1 p.1).length (fun c(L:Zh)=>(((aP w.1.1 p.1).length:Int),(c:Int),w,ix,d,k,b,m,z,fo,se,rs,p,w.1,L)) (fun c L=>L.length≤c*1000000∧∀f∈L,f.2.1∈PS) ?step ?stop _ 0 [] (by omega) (by omega) ⟨cX _,nil⟩) (fun r h=>?_) fun r h=>?_)
   case step=>
    rintro rec c L hc ⟨hL,hP⟩ kk
    dsimp only
    have hw2:=fF c (by omega)
    obtain⟨q1,q2⟩:=hw.ix (p.1,(p.2.1,(aQ ((aQ ((16:Int)*p.2.2.1))+(c:Int)),())))
    rw[cq (by omega),aA (by omega),hw2]
    refine kk _ ⟨by rw[cz];omega,fun f hf=>?_⟩
    rcases List.mem_append.1 hf with h|h
    ·exact hP f h
    ·exact q2 f h
   case stop=>
    rintro rec L ⟨hL,hP⟩
    dsimp only
    rw[eF (by omega)]
    exact⟨_,rfl,L,rfl,cW hL (ju _ hF),hP⟩
   ·obtain⟨L,rfl,h⟩:=h
    exact⟨_,rfl,L,rfl,h⟩
   ·exact h.elim
  ·rw[cD h1];exact⟨_,rfl,[],rfl,cX _,nil⟩
 ·rw[aB (show¬decide ((0:Int)≤p.1)=true by simpa using h0)];exact⟨_,rfl,[],rfl,cX _,nil⟩
def PL(w:aV)(PS:Zd)(U:List Pl)(ix:Ix)(d k:Int)(b:Bool)(m:DM)(z:Unit)(p:Pl)(r:aV×Ix×Int×Int×Bool×DM×Unit×FM×SM×xw×List oE):Prop:=
 ∃fo se x rs,r=(w,ix,d,k,b,m,z,fo,se,x,rs)∧FI w.1.1 PS U fo se rs∧(x.2.2.2.1=true→FV w.1.1 PS x.1 p.1)
theorem rU{w:aV}{PS:Zd}{U:List Pl}{ix:Ix}(hw:WY w PS U ix)(p:Pl)(d k:Int)(b:Bool)(m:DM)(z:Unit){fo:FM}{se:SM}{rs:Zi}(h:FI w.1.1 PS U fo se rs)(hp:ep aR p fo=false)(hU:p∈U)(hP:p.2.1∈PS):
 ∃(L:Zh)(y:Bool)(x:jB)(n:Zi)(se':SM)(rs':Zi),d9 p w ix d k b m z fo se rs=some (w,ix,d,k,b,m,z,fo,se,rs,(w.1,(L,())))∧mU (w.1,(L,())) p.1 p.2.1 p.2.2.1 d k=some (y,x,n)∧
  gq rs n w ix d k b m z fo se=some (n,w,ix,d,k,b,m,z,fo,se',rs')∧fo.length+1≤aF∧
  PL w PS U ix d k b m z p (w,ix,d,k,b,m,z,bK aR p (x,((0:Int),(([]:Zo),(y,())))) fo,se',(x,((0:Int),(([]:Zo),(y,())))),rs'):=by
 have hB:=hB
 obtain⟨L,e1,hL,hPS⟩:=jI hw p d k b m z fo se rs
 obtain⟨⟨y,x,n⟩,e2,hn,hx⟩:=nr (PS:=PS) (w.1,(L,())) hw.sw.nb hw.sw.rules hw.fl (by show L.length≤aF;omega) hPS p.1 p.2.1 p.2.2.1 d k hP
 dsimp only at hn hx
 have hlen:=h.len
 have h1:=hw.len
 have h2:=h.se
 have h3:=h.rs
 obtain⟨se',rs',e3,q1,q2⟩:=fK n se rs (by omega) (by omega)
 refine⟨L,y,x,n,se',rs',e1,e2,?_,by omega,?_⟩
 ·unfold gq
  rw[aA (by omega),e3]
  rfl
 ·have hnew:(bK aR p (x,((0:Int),(([]:Zo),(y,())))) fo).length=fo.length+1:=by
   rw[mA (kt:=aR) rfl (fun hm=>by rw[(il (kt:=aR) rfl).2 hm] at hp;cases hp),cz,bD]
  exact⟨_,_,_,_,rfl,h.put hU hx (by omega) (by omega),hx⟩
abbrev Q0:=Pl×aV×Ix×Int×Int×Bool×DM×Unit×FM×SM×List oE×Unit→Option (aV×Ix×Int×Int×Bool×DM×Unit×FM×SM×xw×List oE)
abbrev Q1:=eU×Int×List jB×aV×Ix×Int×Int×Bool×DM×Unit×FM×SM×List oE×Unit→Option (Bool×eU×Int×aV×Ix×Int×Int×Bool×DM×Unit×FM×SM×List jB×List oE)
theorem ln{s:bF}{PS:Zd}{u:eU}{l:Zo}(hN:NB s)(hL:LI s PS u l)(hl:l.length=u.2.2.1.length){t:gQ}(ht:ml (cR s u) t)(h1:t.2.2.1≠-1):
 ∃n,∀(w:aV),w.1.1=s→∀ix d k b m z fo se rs,i7 t u w ix d k b m z l fo se rs=some (n,u,w,ix,d,k,b,m,z,l,fo,se,rs):=by
 rcases ht with hi|hi
 ·obtain⟨v,hv,_⟩:=qf hL hl (Or.inl hi)
  obtain⟨p,hp⟩:=lk s hN ([],([],((nth bG u.2.2.1 t.2.2.1).2.2.1,(t.2.2.2.1,())))) v
  refine⟨p.1,fun w hw ix d k b m z fo se rs=>?_⟩
  have hp':f32 w.1.1 ([],([],((nth bG u.2.2.1 t.2.2.1).2.2.1,(t.2.2.2.1,())))) v=some p:=by rw[hw];exact hp
  unfold i7
  rw[aA hi.v0,aA (show t.2.2.1<(u.2.2.1.length:Int) from hi.v1),hv,aD,hp']
  rfl
 ·exact absurd hi h1
theorem ue{s:bF}{PS:Zd}{u:eU}{l:Zo}(hN:NB s)(hw:u.2.2.2.1.length≤aF)(hR:RK (cR s u))(hL:LI s PS u l)(hl:l.length=u.2.2.1.length):
 ∃y,∀(w:aV),w.1.1=s→∀ix d k b m z fo se rs,fE u w ix d k b m z l fo se rs=some (y,w,ix,d,k,b,m,z,l,fo,se,rs):=by
 have hB:=hB
 have key:∀n i:Nat,u.2.2.2.1.length -i<n→i≤u.2.2.2.1.length→∃y:Bool,∀(w:aV),w.1.1=s→∀ix d k b m z fo se rs,
  cZ n (u.2.2.2.1,(u.2.2.2.1.length:Int),(i:Int),w,ix,d,k,b,m,z,l,fo,se,rs,u)=some (if y=true then .aS (w,ix,d,k,b,m,z,l,fo,se,rs) else .ret (false,w,ix,d,k,b,m,z,l,fo,se,rs)):=by
  intro n
  induction n with
  |zero=>intro i h;omega
  |
   succ n ih=>
   intro i hn hi
   by_cases h:i<u.2.2.2.1.length
   ·have hm:ml (cR s u) (nth cH u.2.2.2.1 (i:Int)).2.1∧ml (cR s u) (nth cH u.2.2.2.1 (i:Int)).2.2.1:=hR.wh _ (bE (t:=cH) (l:=u.2.2.2.1) (cu i) (show(i:Int)<(u.2.2.2.1.length:Int) by omega))
    obtain⟨y,hy⟩:=ih (i+1) (by omega) (by omega)
    have hw2:=fF i (by omega)
    have hi1:(i:Int)<(u.2.2.2.1.length:Int):=by omega
    generalize ha:nth cH u.2.2.2.1 (i:Int)=a at hm
    obtain⟨v1,e1,_⟩:=qf hL hl hm.1
    obtain⟨v2,e2,_⟩:=qf hL hl hm.2
    have fin:∀(p q:Int)(c:Bool),wc a.1 p q=some c→∀(w:aV) ix d k b m z fo se rs(rec:(ZE)×Int×Int×aV×Ix×Int×Int×Bool×DM×Unit×(Zo)×FM×SM×(Zi)×eU→Option (dN (aV×Ix×Int×Int×Bool×DM×Unit×(Zo)×FM×SM×(Zi)) (Bool×aV×Ix×Int×Int×Bool×DM×Unit×(Zo)×FM×SM×(Zi)))),
     rec (u.2.2.2.1,(u.2.2.2.1.length:Int),((i+1:Nat):Int),w,ix,d,k,b,m,z,l,fo,se,rs,u)=some (if y=true then .aS (w,ix,d,k,b,m,z,l,fo,se,rs) else .ret (false,w,ix,d,k,b,m,z,l,fo,se,rs))→
     (Option.bind (wc a.1 p q) fun y10=>if(!y10)=true then(cN (some (false,w,ix,d,k,b,m,z,l,fo,se,rs))) else(rec (u.2.2.2.1,(u.2.2.2.1.length:Int),aQ ((i:Int)+(1:Int)),w,ix,d,k,b,m,z,l,fo,se,rs,u)))=some (if(c&&y)=true then .aS (w,ix,d,k,b,m,z,l,fo,se,rs) else .ret (false,w,ix,d,k,b,m,z,l,fo,se,rs)):=by
     intro p q c hc w ix d k b m z fo se rs rec hr
     rw[hc,aD]
     cases c with
     |false=>rfl
     |true=>rw[aB (by decide),hw2,hr];rfl
    have hi0:=cu i
    by_cases n1:a.2.1.2.2.1= -1
    ·obtain⟨c,hc⟩:=dO a.1 v1 v2
     refine⟨c&&y,fun w hws ix d k b m z fo se rs=>?_⟩
     have hyw:=hy w hws ix d k b m z fo se rs
     unfold cZ at hyw ⊢
     rw[aK]
     generalize aL _ n=rec at hyw ⊢
     dsimp only
     rw[cq hi1,aA hi0,aA hi1,ha,e1,aD,e2,aD,aB (show¬(!decide (a.2.1.2.2.1=(-1:Int)))=true by simpa using n1)]
     exact fin v1 v2 c hc w ix d k b m z fo se rs rec hyw
    ·by_cases n2:a.2.2.1.2.2.1= -1
     ·obtain⟨c,hc⟩:=dO a.1 v1 v2
      refine⟨c&&y,fun w hws ix d k b m z fo se rs=>?_⟩
      have hyw:=hy w hws ix d k b m z fo se rs
      unfold cZ at hyw ⊢
      rw[aK]
      generalize aL _ n=rec at hyw ⊢
      dsimp only
      rw[cq hi1,aA hi0,aA hi1,ha,e1,aD,e2,aD,aA (show(!decide (a.2.1.2.2.1=(-1:Int)))=true by simpa using n1),aD,aB (show¬(!decide (a.2.2.1.2.2.1=(-1:Int)))=true by simpa using n2)]
      exact fin v1 v2 c hc w ix d k b m z fo se rs rec hyw
     ·obtain⟨p,hp⟩:=ln hN hL hl hm.1 n1
      obtain⟨q,hq⟩:=ln hN hL hl hm.2 n2
      obtain⟨c,hc⟩:=dO a.1 p q
      refine⟨c&&y,fun w hws ix d k b m z fo se rs=>?_⟩
      have hyw:=hy w hws ix d k b m z fo se rs
      unfold cZ at hyw ⊢
      rw[aK]
      generalize aL _ n=rec at hyw ⊢
      dsimp only
      rw[cq hi1,aA hi0,aA hi1,ha,e1,aD,e2,aD,aA (show(!decide (a.2.1.2.2.1=(-1:Int)))=true by simpa using n1),aD,aA (show(!decide (a.2.2.1.2.2.1=(-1:Int)))=true by simpa using n2),hp w hws ix d k b m z fo se rs,aD]
      dsimp only
      rw[hq w hws ix d k b m z fo se rs,aD]
      exact fin p q c hc w ix d k b m z fo se rs rec hyw
   ·refine⟨true,fun w hws ix d k b m z fo se rs=>?_⟩
    unfold cZ
    rw[aK]
    dsimp only
    rw[eF (by omega)]
    rfl
 obtain⟨y,hy⟩:=key (Int.toNat (List.length u.2.2.2.1:Int)+1) 0 (by omega) (by omega)
 refine⟨y,fun w hws ix d k b m z fo se rs=>?_⟩
 have hyw:cZ (Int.toNat (List.length u.2.2.2.1:Int)+1) (u.2.2.2.1,(List.length u.2.2.2.1:Int),(0:Int),w,ix,d,k,b,m,z,l,fo,se,rs,u)=_:=hy w hws ix d k b m z fo se rs
 unfold fE
 rw[hyw]
 cases y<;>rfl
theorem qh{s:bF}{PS:Zd}{u:eU}{l:Zo}(hw:u.2.2.2.2.1.length≤aF)(hR:RK (cR s u))(hL:LI s PS u l)(hl:l.length=u.2.2.1.length)(hf:1≤(aP s u.2.1).length)(hf2:(aP s u.2.1).length≤1000)(p:Int)(hp:p∈PS)(h0:(0:Int)∈PS)(hc:∀t∈u.2.2.2.2.1,t.2.2.1.2.2.2.2.1∈PS):
 ∃x,FV s PS x u.2.1∧∀(w:aV),w.1.1=s→∀ix d k b m z fo se rs,fD u p l w ix d k b m z fo se rs=some (w,ix,d,k,b,m,z,fo,se,rs,x):=by
 have hB:=hB
 have key:∀(n i:Nat)(v:Zd),u.2.2.2.2.1.length -i<n→i≤u.2.2.2.2.1.length→v.length=(aP s u.2.1).length→(∀x∈v,x∈PS)→∃v',v'.length=(aP s u.2.1).length∧(∀x∈v',x∈PS)∧∀(w:aV) ix d k b m z fo se rs,
  dQ n (p,l,u.2.2.2.2.1,(u.2.2.2.2.1.length:Int),(i:Int),w,ix,d,k,b,m,z,fo,se,rs,u,(0:Int),(0:Int),(0:Int),v)=some (.aS (p,w,ix,d,k,b,m,z,fo,se,rs,u,(0:Int),(0:Int),(0:Int),v')):=by
  intro n
  induction n with
  |zero=>intro i v h;omega
  |
   succ n ih=>
   intro i v hn hi hv hP
   by_cases h:i<u.2.2.2.2.1.length
   ·have hi1:(i:Int)<(u.2.2.2.2.1.length:Int):=by omega
    have hi0:=cu i
    have hm:=bE (t:=dF) (l:=u.2.2.2.2.1) hi0 hi1
    have hw2:=fF i (by omega)
    have hc2:=hc _ hm
    obtain⟨hi,ht⟩:=hR.st _ hm
    obtain⟨y,ey,hy⟩:=qf hL hl ht
    have hb:(nth dF u.2.2.2.2.1 (i:Int)).2.1<(v.length:Int):=by rw[hv];exact hi.b1
    obtain⟨v',q1,q2,q3⟩:=ih (i+1) (List.set v (Int.toNat (nth dF u.2.2.2.2.1 (i:Int)).2.1) y) (by omega) (by omega) (by rw[cP];exact hv) (fun x hx=>by
     rcases uO hx with h|rfl
     ·exact hP _ h
     ·rcases hy with h|⟨_,rfl⟩
      ·exact h
      ·exact hc2)
    refine⟨v',q1,q2,fun w ix d k b m z fo se rs=>?_⟩
    have hyw:=q3 w ix d k b m z fo se rs
    unfold dQ at hyw ⊢
    rw[aK]
    generalize aL _ n=rec at hyw ⊢
    dsimp only
    rw[cq hi1,aA hi0,aA hi1,ey,aD,aA hi.b0,aA hb,hw2]
    exact hyw
   ·refine⟨v,hv,hP,fun w ix d k b m z fo se rs=>?_⟩
    unfold dQ
    rw[aK]
    dsimp only
    rw[eF (by omega)]
 obtain⟨v',q1,q2,q3⟩:=key (Int.toNat (List.length u.2.2.2.2.1:Int)+1) 0 (List.set (List.replicate (Int.toNat ((aP s u.2.1).length:Int)) (0:Int)) (Int.toNat (0:Int)) p) (by omega) (by omega) (by rw[cP,gn,dV]) (fun x hx=>by
  rcases uO hx with h|rfl
  ·rw[List.mem_replicate] at h
   rw[h.2];exact h0
  ·exact hp)
 refine⟨(u.2.1,(p,((0:Int),(v',())))),⟨q1,q2⟩,fun w hws ix d k b m z fo se rs=>?_⟩
 subst hws
 have e:(nth aU w.1.1.2.2.1 u.2.1).2.2.2.2.1=aP w.1.1 u.2.1:=rfl
 have q:=q3 w ix d k b m z fo se rs
 have q':dQ (Int.toNat (List.length u.2.2.2.2.1:Int)+1) (p,l,u.2.2.2.2.1,(List.length u.2.2.2.2.1:Int),(0:Int),w,ix,d,k,b,m,z,fo,se,rs,u,(0:Int),(0:Int),(0:Int),List.set (List.replicate (Int.toNat ((aP w.1.1 u.2.1).length:Int)) (0:Int)) (Int.toNat (0:Int)) p)=_:=q
 unfold fD
 rw[aA hR.h0,aA hR.h1,e,dK _,aA (fQ _),aA (by omega),aA (by rw[gn,dV];omega),q',aC]
def cY(s:bF)(ix:Ix)(p:Pl):Zh:=if 0≤p.1∧p.1<(s.2.2.1.length:Int) then(List.range (aP s p.1).length).flatMap fun(c:Nat)=>aO aR (.slice 64 aN) (p.1,(p.2.1,(aQ ((aQ ((16:Int)*p.2.2.1))+(c:Int)),()))) (bA ix) else[]
theorem lq{w:aV}{PS:Zd}{U:List Pl}{ix:Ix}(hw:WY w PS U ix)(p:Pl)(d k:Int)(b:Bool)(m:DM)(z:Unit)(fo:FM)(se:SM)(rs:Zi):
 d9 p w ix d k b m z fo se rs=some (w,ix,d,k,b,m,z,fo,se,rs,(w.1,(cY w.1.1 ix p,()))):=by
 have hB:=hB
 suffices hW:W (d9 p w ix d k b m z fo se rs) fun r=>r=(w,ix,d,k,b,m,z,fo,se,rs,(w.1,(cY w.1.1 ix p,()))) by
  obtain⟨r,e,rfl⟩:=hW
  exact e
 unfold d9
 by_cases h0:0≤p.1
 ·rw[cq h0]
  by_cases h1:p.1<(w.1.1.2.2.1.length:Int)
  ·rw[bR h1,aD,aA rfl,aA h0,aA h1]
   have e:(nth aU w.1.1.2.2.1 p.1).2.2.2.2.1=aP w.1.1 p.1:=rfl
   have hF:=hw.fl _ h0 h1
   rw[e]
   have ea:cY w.1.1 ix p=(List.range (aP w.1.1 p.1).length).flatMap fun(c:Nat)=>aO aR (.slice 64 aN) (p.1,(p.2.1,(aQ ((aQ ((16:Int)*p.2.2.1))+(c:Int)),()))) (bA ix):=aA ⟨h0,h1⟩
   rw[ea]
   refine aZ.2 (W.ct (bW (L:=iT) rfl (CT (fun r=>r=(w,ix,d,k,b,m,z,fo,se,rs,w.1,(List.range (aP w.1.1 p.1).length).flatMap fun(c:Nat)=>aO aR (.slice 64 aN) (p.1,(p.2.1,(aQ ((aQ ((16:Int)*p.2.2.1))+(c:Int)),()))) (bA ix))) fun _=>False) (aP w.1.1 p.1).length (fun c(L:Zh)=>(((aP w.1.1 p.1).length:Int),(c:Int),w,ix,d,k,b,m,z,fo,se,rs,p,w.1,L)) (fun c L=>L.length≤c*1000000∧L=(List.range c).flatMap fun(c:Nat)=>aO aR (.slice 64 aN) (p.1,(p.2.1,(aQ ((aQ ((16:Int)*p.2.2.1))+(c:Int)),()))) (bA ix)) ?step ?stop _ 0 [] (by omega) (by omega) ⟨cX _,rfl⟩) (fun r h=>?_) fun r h=>h.elim)
   case step=>
    rintro rec c L hc ⟨hL,hP⟩ kk
    dsimp only
    have hw2:=fF c (by omega)
    obtain⟨q1,q2⟩:=hw.ix (p.1,(p.2.1,(aQ ((aQ ((16:Int)*p.2.2.1))+(c:Int)),())))
    rw[cq (by omega),aA (by omega),hw2]
    refine kk _ ⟨by rw[cz];omega,?_⟩
    rw[List.range_succ,List.flatMap_append,←hP,List.flatMap_cons,List.flatMap_nil,cw]
   case stop=>
    rintro rec L ⟨hL,hP⟩
    dsimp only
    rw[eF (by omega),hP]
    exact⟨_,rfl,rfl⟩
   ·subst h
    exact⟨_,rfl,rfl⟩
  ·have ea:cY w.1.1 ix p= []:=aB fun h=>h1 h.2
   rw[cD h1,ea];exact⟨_,rfl,rfl⟩
 ·have ea:cY w.1.1 ix p= []:=aB fun h=>h0 h.1
  rw[aB (show¬decide ((0:Int)≤p.1)=true by simpa using h0),ea];exact⟨_,rfl,rfl⟩
structure T2(w1:aV)(ix1:Ix)(k1:Int)(w2:aV)(ix2:Ix)(k2:Int)(lo PS:Zd)(U:List Pl)(d:Int)(Gd:oE→Prop):Prop where
 h1:WX w1 lo PS U ix1
 h2:WX w2 lo PS U ix2
 tb:w2.1=w1.1
 rd:∀(p:Pl) r,mU (w1.1,(cY w1.1.1 ix1 p,())) p.1 p.2.1 p.2.2.1 d k1=some r→(∀q∈r.2.2,Gd q)→mU (w2.1,(cY w2.1.1 ix2 p,())) p.1 p.2.1 p.2.2.1 d k2=some r
structure FT(b:bF):Prop where
 dh:b.2.2.1.length≤6
 rules:b.2.2.2.1.length≤4
 fields:∀x∈b.2.2.1,x.2.2.2.2.1.length≤6
 Il:∀x∈b.2.2.2.1,x.2.2.2.2.1.length≤6
theorem qi(b:bF)(h:SS b):∃r,yT b=some r∧(r=true→FT b):=by
 have hB:=hB
 have h3:=h.dh
 have h4:=h.rules
 have h5:=h.fX
 have h6:=h.dX
 suffices hW:W (yT b) fun r=>r=true→FT b by
  obtain⟨r,e,h⟩:=hW
  exact⟨r,e,h⟩
 have nb:∀n:Nat,n≤aF→n -0<dA:=fun n hn=>by show _<18446744073709551616;omega
 have no:(false:Bool)=true→FT b:=fun h=>(by cases h)
 unfold yT
 refine aZ.2 (W.ct (bW (L:=mX) rfl (CT (fun d=>d=b∧∀j(hj:j<b.2.2.1.length),b.2.2.1[j].2.2.2.2.1.length≤6) fun r=>r=false) b.2.2.1.length (fun c(_:Unit)=>((c:Int),b)) (fun c _=>∀j(hj:j<b.2.2.1.length),j<c→b.2.2.1[j].2.2.2.2.1.length≤6) ?step ?stop dA 0 () (nb _ h3) (by omega) (fun j _ h=>absurd h (Nat.not_lt_zero _))) (fun d hd=>?_) fun r hr=>by subst hr;exact no)
 case step=>
  intro rec c _ hc hI kk
  dsimp only
  have hw2:=fF c (by omega)
  have hcc:(c:Int)<(b.2.2.1.length:Int):=by omega
  rw[cq hcc,dK c,aA hcc,cJ (t:=aU) hc]
  by_cases a1:(6:Int)<(b.2.2.1[c].2.2.2.2.1.length:Int)
  ·rw[cq a1];exact⟨_,rfl,rfl⟩
  ·rw[aB (show¬decide ((6:Int)<(b.2.2.1[c].2.2.2.2.1.length:Int))=true by simpa using a1),dK c,aA hcc,aD]
   split
   ·exact⟨_,rfl,rfl⟩
   ·rw[hw2]
    refine kk () fun j hj hjc=>?_
    by_cases e:j=c
    ·subst e;omega
    ·exact hI j hj (by omega)
 case stop=>
  intro rec _ hI
  dsimp only
  rw[eF (by omega)]
  exact⟨_,rfl,rfl,fun j hj=>hI j hj hj⟩
 obtain⟨rfl,hf⟩:=hd
 refine aZ.2 (W.ct (bW (L:=mY) rfl (CT (fun d'=>d'=d∧∀j(hj:j<d.2.2.2.1.length),d.2.2.2.1[j].2.2.2.2.1.length≤6) fun r=>r=false) d.2.2.2.1.length (fun c(_:Unit)=>((c:Int),d)) (fun c _=>∀j(hj:j<d.2.2.2.1.length),j<c→d.2.2.2.1[j].2.2.2.2.1.length≤6) ?step ?stop dA 0 () (nb _ h4) (by omega) (fun j _ h=>absurd h (Nat.not_lt_zero _))) (fun d' hd=>?_) fun r hr=>by subst hr;exact no)
 case step=>
  intro rec c _ hc hI kk
  dsimp only
  have hw2:=fF c (by omega)
  have hcc:(c:Int)<(d.2.2.2.1.length:Int):=by omega
  rw[cq hcc,dK c,aA hcc,cJ (t:=bX) hc]
  by_cases a1:(4:Int)<(d.2.2.2.1[c].2.2.1.length:Int)
  ·rw[cq a1];exact⟨_,rfl,rfl⟩
  ·rw[aB (show¬decide ((4:Int)<(d.2.2.2.1[c].2.2.1.length:Int))=true by simpa using a1),dK c,aA hcc]
   by_cases a2:(5:Int)<(d.2.2.2.1[c].2.2.2.1.length:Int)
   ·rw[cq a2];exact⟨_,rfl,rfl⟩
   ·rw[aB (show¬decide ((5:Int)<(d.2.2.2.1[c].2.2.2.1.length:Int))=true by simpa using a2),dK c,aA hcc,aD]
    by_cases a3:(6:Int)<(d.2.2.2.1[c].2.2.2.2.1.length:Int)
    ·rw[cq a3];exact⟨_,rfl,rfl⟩
    ·rw[aB (show¬decide ((6:Int)<(d.2.2.2.1[c].2.2.2.2.1.length:Int))=true by simpa using a3),hw2]
     refine kk () fun j hj hjc=>?_
     by_cases e:j=c
     ·subst e;omega
     ·exact hI j hj (by omega)
 case stop=>
  intro rec _ hI
  dsimp only
  rw[eF (by omega)]
  exact⟨_,rfl,rfl,fun j hj=>hI j hj hj⟩
 obtain⟨rfl,hs⟩:=hd
 refine aZ.2 (W.ct (bW (L:=kV) rfl (CT (fun d=>d=d') fun r=>r=false) d'.2.2.2.2.1.length (fun c(_:Unit)=>((c:Int),d')) (fun _ _=>True) ?step ?stop dA 0 () (nb _ h5) (by omega) trivial) (fun d hd=>?_) fun r hr=>by subst hr;exact no)
 case step=>
  intro rec c _ hc _ kk
  dsimp only
  have hw2:=fF c (by omega)
  have hcc:(c:Int)<(d'.2.2.2.2.1.length:Int):=by omega
  rw[cq hcc,dK c,aA hcc]
  split
  ·exact⟨_,rfl,rfl⟩
  ·rw[hw2];exact kk () trivial
 case stop=>
  intro rec _ _
  dsimp only
  rw[eF (by omega)]
  exact⟨_,rfl,rfl⟩
 subst hd
 refine aZ.2 (W.ct (bW (L:=kW) rfl (CT (fun d'=>d'=d) fun r=>r=false) d.2.2.2.2.2.1.length (fun c(_:Unit)=>((c:Int),d)) (fun _ _=>True) ?step ?stop dA 0 () (nb _ h6) (by omega) trivial) (fun d' hd=>?_) fun r hr=>by subst hr;exact no)
 case step=>
  intro rec c _ hc _ kk
  dsimp only
  have hw2:=fF c (by omega)
  have hcc:(c:Int)<(d.2.2.2.2.2.1.length:Int):=by omega
  rw[cq hcc,dK c,aA hcc]
  split
  ·exact⟨_,rfl,rfl⟩
  ·rw[hw2];exact kk () trivial
 case stop=>
  intro rec _ _
  dsimp only
  rw[eF (by omega)]
  exact⟨_,rfl,rfl⟩
 subst hd
 by_cases c1:(d'.1.length:Int)≤4
 ·rw[cq c1]
  by_cases c2:(d'.2.1.length:Int)≤5
  ·rw[cq c2]
   by_cases c3:(d'.2.2.1.length:Int)≤6
   ·rw[cq c3]
    by_cases c4:(d'.2.2.2.1.length:Int)≤4
    ·rw[cq c4]
     have iq:FT d':=⟨by omega,by omega,fun x hx=>by
      obtain⟨j,hj,rfl⟩:=iG hx
      exact hf j hj,fun x hx=>by
      obtain⟨j,hj,rfl⟩:=iG hx
      exact hs j hj⟩
     split
     ·exact⟨_,rfl,fun _=>iq⟩
     ·exact⟨_,rfl,no⟩
    ·rw[aB (show¬decide ((d'.2.2.2.1.length:Int)≤4)=true by simpa using c4)];exact⟨_,rfl,no⟩
   ·rw[aB (show¬decide ((d'.2.2.1.length:Int)≤6)=true by simpa using c3)];exact⟨_,rfl,no⟩
  ·rw[aB (show¬decide ((d'.2.1.length:Int)≤5)=true by simpa using c2)];exact⟨_,rfl,no⟩
 ·rw[aB (show¬decide ((d'.1.length:Int)≤4)=true by simpa using c1)];exact⟨_,rfl,no⟩
theorem qj(w:aV)(h:SS w.1.1):∃r,B8 w=some r∧(r=true→FT w.1.1∧w.2.1.length≤60):=by
 obtain⟨r,e,hr⟩:=qi w.1.1 h
 unfold B8 Hd
 rw[e,aD]
 cases r with
 |false=>exact⟨false,rfl,fun h=>(by cases h)⟩
 |
  true=>
  have ht:=hr rfl
  rw[aA rfl,aD,aD]
  split
  ·exact⟨_,rfl,fun h=>⟨ht,by have h:(w.2.1.length:Int)≤60:=bY h;omega⟩⟩
  ·exact⟨false,rfl,fun h=>(by cases h)⟩
theorem qk(w:aV)(h:SS w.1.1):∃r,f8 w=some r∧(r=true→FT w.1.1∧w.2.1.length≤60):=by
 have hB:=hB
 have h4:=h.rules
 suffices hW:W (f8 w) fun r=>r=true→FT w.1.1∧w.2.1.length≤60 by
  obtain⟨r,e,h⟩:=hW
  exact⟨r,e,h⟩
 have no:(false:Bool)=true→FT w.1.1∧w.2.1.length≤60:=fun h=>(by cases h)
 unfold f8
 refine aZ.2 (W.ct (bW (L:=rA) rfl (CT (fun d=>d=(w,w.1.1)) fun r=>r=false) w.1.1.2.2.2.1.length (fun c(_:Unit)=>((c:Int),w,w.1.1)) (fun _ _=>True) ?step ?stop dA 0 () (by show _<18446744073709551616;omega) (by omega) trivial) (fun d hd=>?_) fun r hr=>by subst hr;exact no)
 case step=>
  intro rec c _ hc _ kk
  dsimp only
  have hw2:=fF c (by omega)
  have hcc:(c:Int)<(w.1.1.2.2.2.1.length:Int):=by omega
  rw[cq hcc,dK c,aA hcc]
  split
  ·exact⟨_,rfl,rfl⟩
  ·rw[hw2];exact kk () trivial
 case stop=>
  intro rec _ _
  dsimp only
  rw[eF (by omega)]
  exact⟨_,rfl,rfl⟩
 subst hd
 dsimp only
 obtain⟨r,e,hr⟩:=qj w h
 rw[e,aD]
 cases r with
 |false=>exact⟨false,rfl,no⟩
 |
  true=>
  have ht:=hr rfl
  rw[aA rfl]
  split
  ·exact⟨_,rfl,fun _=>ht⟩
  ·exact⟨false,rfl,no⟩
def dr(k:hJ)(l:Zh):Zh:=l.filter fun f=>bM aR f.1 k
theorem kP(k:hJ)(l:Zh)(x:iL):dr k (l++[x])=dr k l++if bM aR x.1 k=true then[x] else[]:=by
 unfold dr
 rw[List.filter_append,jC]
 rfl
def gW(l:Zl):Zr:=l.foldl (fun m u=>bK (.int .i64) u.2.1 true m) []
theorem lT(l:Zl)(u:eU):gW (l++[u])=bK (.int .i64) u.2.1 true (gW l):=by
 unfold gW
 rw[List.foldl_append]
 rfl
theorem iN:∀(l:Zl)(m:Zr),(l.foldl (fun m u=>bK (.int .i64) u.2.1 true m) m).length≤m.length+l.length
 |[],m=>cV _
 |
  u::l,m=>by
  have h:=iN l (bK (.int .i64) u.2.1 true m)
  have h2:(bK (.int .i64) u.2.1 true m).length≤m.length+1:=dp (kt:=.int .i64)
  rw[List.foldl_cons,da]
  omega
theorem nu(l:Zl):(gW l).length≤l.length:=by
 have h:=iN l []
 rw[fO,ek] at h
 exact h
theorem kQ(a:Int):∀(l:Zl)(m:Zr),aO (.int .i64) .bool a (l.foldl (fun m u=>bK (.int .i64) u.2.1 true m) m)=true→aO (.int .i64) .bool a m=true∨∃u∈l,u.2.1=a
 |[],m,h=>Or.inl h
 |
  u::l,m,h=>by
  rw[List.foldl_cons] at h
  rcases kQ a l _ h with h|⟨v,hv,e⟩
  ·by_cases e:a=u.2.1
   ·exact Or.inr ⟨u,dx ..,e.symm⟩
   ·rw[cT (kt:=.int .i64) (vt:=.bool) rfl e] at h
    exact Or.inl h
  ·exact Or.inr ⟨v,dH _ hv,e⟩
theorem nI(a:Int)(l:Zl)(h:aO (.int .i64) .bool a (gW l)=true):∃u∈l,u.2.1=a:=(kQ a l [] h).elim (fun h=>(by cases h)) id
theorem gJ{α:Type}(l:List α)(c:Nat)(h:c<l.length):l.take (c+1)=l.take c++[l[c]]:=List.take_succ_eq_append_getElem h
theorem lU(w:aV)(hf:w.2.1.length≤1000000)(hr:w.1.1.2.2.2.1.length≤aF)(d k:Int)(v:Bool):
 ∃ix:ZD,iz w d k v=some (w,some ix,d,k,v,some (gW w.1.1.2.2.2.1),(),[],[],[])∧∀key,aO aR (.slice 64 aN) key ix=dr key w.2.1:=by
 have hB:=hB
 suffices hW:W (iz w d k v) fun r=>∃ix:ZD,r=(w,some ix,d,k,v,some (gW w.1.1.2.2.2.1),(),[],[],[])∧∀key,aO aR (.slice 64 aN) key ix=dr key w.2.1 by
  obtain⟨r,e,ix,rfl,h⟩:=hW
  exact⟨ix,e,h⟩
 unfold iz
 refine aZ.2 (W.ct (bW (L:=pa) rfl (CT (fun r=>∃ix:ZD,r=(d,k,w,ix,([]:Zr),w,(0:Int),(0:Int),v)∧∀key,aO aR (.slice 64 aN) key ix=dr key w.2.1) fun _=>False) w.2.1.length (fun c(ix:ZD)=>(d,k,w.2.1,(w.2.1.length:Int),(c:Int),w,ix,([]:Zr),w,(0:Int),(0:Int),v)) (fun c ix=>ix.length≤2*c∧∀key,aO aR (.slice 64 aN) key ix=dr key (w.2.1.take c)) ?step ?stop _ 0 [] (by omega) (by omega) ⟨cX _,fun key=>rfl⟩) (fun r hr=>?_) fun r hr=>hr.elim)
 case step=>
  rintro rec c ix hc ⟨hl,hI⟩ kk
  dsimp only
  have hw2:=fF c (by omega)
  have hcc:(c:Int)<(w.2.1.length:Int):=by omega
  rw[cq hcc,dK c,aA hcc,cJ (t:=aN) hc]
  have ht:=gJ w.2.1 c hc
  generalize w.2.1[c]=x at ht ⊢
  have h1:(aO aR (.slice 64 aN) x.1 ix).length≤w.2.1.length:=by
   rw[hI x.1]
   exact cW (n7 ..) (by rw[gE];omega)
  rw[aA ((dw aR x.1 x.1).2 rfl),aA (show ix.length+1≤aF by omega),aA (show((aO aR (.slice 64 aN) x.1 ix).length+List.length [x])*64≤aF by rw[bD];omega),hw2]
  refine kk _ ⟨?_,fun key=>?_⟩
  ·have q1:(bK aR x.1 (Ty.aH (.slice 64 aN)) ix).length≤ix.length+1:=dp (kt:=aR)
   have q2:(bK aR x.1 (aO aR (.slice 64 aN) x.1 ix++[x]) (bK aR x.1 (Ty.aH (.slice 64 aN)) ix)).length≤(bK aR x.1 (Ty.aH (.slice 64 aN)) ix).length+1:=dp (kt:=aR)
   omega
  ·rw[ht,kP]
   by_cases e:key=x.1
   ·subst e
    rw[dj (kt:=aR) (vt:=.slice 64 aN) rfl,hI,aA ((dw aR x.1 x.1).2 rfl)]
   ·rw[cT (kt:=aR) (vt:=.slice 64 aN) rfl e,cT (kt:=aR) (vt:=.slice 64 aN) rfl e,hI,aB (fun h=>e ((dw aR x.1 key).1 h).symm),cw]
 case stop=>
  rintro rec ix ⟨hl,hI⟩
  dsimp only
  rw[eF (by omega)]
  rw[List.take_length] at hI
  exact⟨_,rfl,ix,rfl,hI⟩
 obtain⟨ix,rfl,hI⟩:=hr
 dsimp only
 refine aZ.2 (W.ct (bW (L:=pb) rfl (CT (fun r=>r=(d,k,ix,gW w.1.1.2.2.2.1,w,(0:Int),(0:Int),v)) fun _=>False) w.1.1.2.2.2.1.length (fun c(m:Zr)=>(d,k,w.1.1.2.2.2.1,(w.1.1.2.2.2.1.length:Int),(c:Int),ix,m,w,(0:Int),(0:Int),v)) (fun c m=>m=gW (w.1.1.2.2.2.1.take c)) ?step ?stop _ 0 [] (by omega) (by omega) rfl) (fun r hr=>?_) fun r hr=>hr.elim)
 case step=>
  rintro rec c m hc rfl kk
  dsimp only
  have hw2:=fF c (by omega)
  have hcc:(c:Int)<(w.1.1.2.2.2.1.length:Int):=by omega
  have hl:=nu (w.1.1.2.2.2.1.take c)
  rw[gE] at hl
  rw[cq hcc,dK c,aA hcc,aA (show(gW (w.1.1.2.2.2.1.take c)).length+1≤aF by omega),hw2,cJ (t:=bX) hc]
  exact kk _ (by rw[gJ _ _ hc,lT])
 case stop=>
  rintro rec m rfl
  dsimp only
  rw[eF (by omega),List.take_length]
  exact⟨_,rfl,rfl⟩
 subst hr
 exact⟨_,rfl,ix,rfl,hI⟩
theorem gD{α β:Type}{f:α→List β}{n:Nat}:∀{l:List α},(∀x∈l,(f x).length≤n)→(l.flatMap f).length≤l.length*n
 |[],_=>cX _
 |
  x::l,h=>by
  have h1:=h x (dx ..)
  have h2:=gD (f:=f) (n:=n) (l:=l) fun y hy=>h y (dH _ hy)
  rw[List.flatMap_cons,cz,da,iW]
  omega
def jJ(w:aV)(p:Int):Zd:=0::p::(w.2.1.map (fun f=>f.2.1)++w.1.1.2.2.2.1.flatMap fun u=>u.2.2.2.2.1.map fun t=>t.2.2.1.2.2.2.2.1)
def Uo(w:aV)(p:Int)(x:Pl):List Pl:=x::(List.range w.1.1.2.2.1.length).flatMap fun(i:Nat)=>(jJ w p).flatMap fun(q:Int)=>(List.range 4).map fun(j:Nat)=>(((i:Int),(q,((j:Int),()))):Pl)
theorem ql{w:aV}(p:Int)(hT:FT w.1.1)(hf:w.2.1.length≤60):(jJ w p).length≤86:=by
 have h:=gD (f:=fun u:eU=>u.2.2.2.2.1.map fun t=>t.2.2.1.2.2.2.2.1) (n:=6) (l:=w.1.1.2.2.2.1) fun x hx=>by rw[gv];exact hT.Il x hx
 have h4:=hT.rules
 unfold jJ
 rw[da,da,cz,gv]
 omega
theorem nv{w:aV}(p:Int)(x:Pl)(hT:FT w.1.1)(hf:w.2.1.length≤60):(Uo w p x).length≤2100:=by
 have h1:=ql p hT hf
 have h2:∀i:Nat,((jJ w p).flatMap fun(q:Int)=>(List.range 4).map fun(j:Nat)=>(((i:Int),(q,((j:Int),()))):Pl)).length≤344:=fun i=>by
  have:=gD (f:=fun(q:Int)=>(List.range 4).map fun(j:Nat)=>(((i:Int),(q,((j:Int),()))):Pl)) (n:=4) (l:=jJ w p) fun y _=>by rw[gv,n9];exact cV _
  omega
 have h3:=gD (f:=fun(i:Nat)=>(jJ w p).flatMap fun(q:Int)=>(List.range 4).map fun(j:Nat)=>(((i:Int),(q,((j:Int),()))):Pl)) (n:=344) (l:=List.range w.1.1.2.2.1.length) fun i _=>h2 i
 rw[n9] at h3
 have h4:=hT.dh
 unfold Uo
 rw[da]
 omega
theorem rV{w:aV}(p:Int)(x:Pl){a q i:Int}(a0:0≤a)(a1:a<(w.1.1.2.2.1.length:Int))(hq:q∈jJ w p)(i0:0≤i)(i1:i<4):(a,(q,(i,())))∈Uo w p x:=by
 refine dH _ (List.mem_flatMap.2 ⟨a.toNat,List.mem_range.2 (by omega),List.mem_flatMap.2 ⟨q,hq,List.mem_map.2 ⟨i.toNat,List.mem_range.2 (by omega),?_⟩⟩⟩)
 have e1:((a.toNat:Nat):Int)=a:=by omega
 have e2:((i.toNat:Nat):Int)=i:=by omega
 rw[e1,e2]
theorem NC{w:aV}{lo:Zd}(hc:CG w.1.1 lo)(hT:FT w.1.1)(hf:w.2.1.length≤60)(p:Int)(x:Pl){ix:Ix}(hix:IX (jJ w p) ix):WX w lo (jJ w p) (Uo w p x) ix where
 cg:=hc
 zero:=dx ..
 consts u hu t ht:=dH _ (dH _ (iX _ (List.mem_flatMap.2 ⟨u,hu,List.mem_map.2 ⟨t,ht,rfl⟩⟩)))
 pl _ _ _ a0 a1 hq i0 i1:=rV p x a0 a1 hq i0 i1
 len:=cW (nv p x hT hf) (by decide)
 fl a a0 a1:=by
  have:=hT.fields _ (bE (t:=aU) (l:=w.1.1.2.2.1) a0 a1)
  exact cW this (by decide)
 ix:=hix
theorem O0{l:Zd}{i j:Nat}(v:Int)(_hi:i<l.length)(hj:j<l.length):nth (.int .i64) (l.set i v) (j:Int)=if i=j then v else nth (.int .i64) l (j:Int):=by
 have hj':j<(l.set i v).length:=by rw[cP];exact hj
 rw[cJ (t:=.int .i64) hj',cJ (t:=.int .i64) hj,List.getElem_set]
theorem KM{a:Int}{c:Nat}:imax a 0≤(c:Int)↔a≤(c:Int):=by unfold imax;split<;>omega
theorem W6{a:Int}(h:0≤a):imax a (-1)=a:=by unfold imax;split<;>omega
theorem W7{a:Int}(h:¬0≤a):imax a (-1)= -1:=by unfold imax;split<;>omega
theorem KN{a:Int}{c:Nat}(hc:c<1024):(c:Int)<rp a 1024↔(c:Int)<a:=by unfold rp;split<;>omega
theorem wm1{y:Int}{i n:Nat}(h0:0≤y)(h1:y≤(i:Int))(hi:i<n)(hn:n≤1000)(hz:¬y=0):aQ (y -1)=y -1∧0≤y -1∧y -1<(n:Int):=⟨dR (by omega) (by omega),by omega,by omega⟩
def tx(own:Zh)(i:Nat)(x:iL)(dy:Nat)(c:Int):Int:=if x.2.2.1.1≤(dy:Int)∧(dy:Int)<x.2.2.1.2.1∧(c=0∨Dn (nth aN own (c -1)) x≤0) then((i+1:Nat):Int) else c
theorem W8(own:Zh)(hown:own.length≤1000)(i:Nat)(hi:i<own.length)(x:iL)(c:Zd)(hc:c.length=1024)(hr:∀dy<1024,0≤nth (.int .i64) c ((dy:Nat):Int)∧nth (.int .i64) c ((dy:Nat):Int)≤(i:Int)):
 W (kL dA (own,(i:Int),imax x.2.2.1.1 (0:Int),own,(own.length:Int),(i:Int),c,x)) (CT (fun d=>∃c',d=(own,own,(own.length:Int),(i:Int),c')∧c'.length=1024∧∀dy<1024,nth (.int .i64) c' ((dy:Nat):Int)=tx own i x dy (nth (.int .i64) c ((dy:Nat):Int))) fun _=>False):=by
 have hB:=hB
 have h0:0≤imax x.2.2.1.1 0:=by unfold imax;split<;>omega
 obtain⟨lo,hlo⟩:∃lo:Nat,imax x.2.2.1.1 (0:Int)=(lo:Int):=⟨(imax x.2.2.1.1 0).toNat,by omega⟩
 have key:∀(n k:Nat)(e:Zd),1024 -k<n→lo≤k→e.length=1024→(∀dy<1024,nth (.int .i64) e ((dy:Nat):Int)=if dy<k then tx own i x dy (nth (.int .i64) c ((dy:Nat):Int)) else nth (.int .i64) c ((dy:Nat):Int))→
  W (kL n (own,(i:Int),(k:Int),own,(own.length:Int),(i:Int),e,x)) (CT (fun d=>∃c',d=(own,own,(own.length:Int),(i:Int),c')∧c'.length=1024∧∀dy<1024,nth (.int .i64) c' ((dy:Nat):Int)=tx own i x dy (nth (.int .i64) c ((dy:Nat):Int))) fun _=>False):=by
  intro n
  induction n with
  |zero=>intro k e h;omega
  |
   succ n ih=>
   intro k e hn hk he hI
   unfold kL at ih ⊢
   rw[aK]
   generalize aL _ n=rec at ih ⊢
   dsimp only
   by_cases hlt:(k:Int)<rp x.2.2.1.2.1 (1024:Int)
   ·have hk2:k<1024:=by unfold rp at hlt;split at hlt<;>omega
    have hk3:(k:Int)<(1024:Int):=by omega
    have hw2:=fF k (by omega)
    have hwi:=fF i (by omega)
    have hkT:(k:Int)<x.2.2.1.2.1:=(KN hk2).1 hlt
    have hkF:x.2.2.1.1≤(k:Int):=KM.1 (by rw[hlo];omega)
    have hek:nth (.int .i64) e ((k:Nat):Int)=nth (.int .i64) c ((k:Nat):Int):=by rw[hI k hk2,aB (by omega)]
    obtain⟨r0,r1⟩:=hr k hk2
    rw[cq hlt,dK k,aA hk3,hek]
    have next:∀e':Zd,e'.length=1024→(∀dy<1024,nth (.int .i64) e' ((dy:Nat):Int)=if dy<k+1 then tx own i x dy (nth (.int .i64) c ((dy:Nat):Int)) else nth (.int .i64) c ((dy:Nat):Int))→W (rec (own,(i:Int),((k+1:Nat):Int),own,(own.length:Int),(i:Int),e',x)) (CT (fun d=>∃c',d=(own,own,(own.length:Int),(i:Int),c')∧c'.length=1024∧∀dy<1024,nth (.int .i64) c' ((dy:Nat):Int)=tx own i x dy (nth (.int .i64) c ((dy:Nat):Int))) fun _=>False):=fun e' h1 h2=>ih (k+1) e' (by omega) (by omega) h1 h2
    have yes:tx own i x k (nth (.int .i64) c ((k:Nat):Int))=((i+1:Nat):Int)→W (rec (own,(i:Int),aQ ((k:Int)+(1:Int)),own,(own.length:Int),(i:Int),List.set e (Int.toNat (k:Int)) (aQ ((i:Int)+(1:Int))),x)) (CT (fun d=>∃c',d=(own,own,(own.length:Int),(i:Int),c')∧c'.length=1024∧∀dy<1024,nth (.int .i64) c' ((dy:Nat):Int)=tx own i x dy (nth (.int .i64) c ((dy:Nat):Int))) fun _=>False):=fun hu=>by
     rw[hw2,hwi,dV]
     refine next _ (by rw[cP];exact he) fun dy hdy=>?_
     rw[O0 _ (by omega) (by omega)]
     by_cases e1:k=dy
     ·subst e1;rw[aA rfl,aA (by omega),hu]
     ·rw[aB e1,hI dy hdy]
      by_cases e2:dy<k
      ·rw[aA e2,aA (by omega)]
      ·rw[aB e2,aB (by omega)]
    have no:tx own i x k (nth (.int .i64) c ((k:Nat):Int))=nth (.int .i64) c ((k:Nat):Int)→W (rec (own,(i:Int),aQ ((k:Int)+(1:Int)),own,(own.length:Int),(i:Int),e,x)) (CT (fun d=>∃c',d=(own,own,(own.length:Int),(i:Int),c')∧c'.length=1024∧∀dy<1024,nth (.int .i64) c' ((dy:Nat):Int)=tx own i x dy (nth (.int .i64) c ((dy:Nat):Int))) fun _=>False):=fun hu=>by
     rw[hw2]
     refine next _ he fun dy hdy=>?_
     rw[hI dy hdy]
     by_cases e1:dy=k
     ·subst e1;rw[aB (by omega),aA (by omega),hu]
     ·by_cases e2:dy<k
      ·rw[aA e2,aA (by omega)]
      ·rw[aB e2,aB (by omega)]
    generalize nth (.int .i64) c ((k:Nat):Int)=y at r0 r1 yes no ⊢
    by_cases hz:y=0
    ·rw[cq hz,aD,aA rfl,dK k,aA hk3]
     exact yes (by unfold tx;rw[aA ⟨hkF,hkT,Or.inl hz⟩])
    ·obtain⟨hw3,hw4,hw5⟩:=wm1 r0 r1 hi hown hz
     rw[aB (fun h=>hz (bY h)),dK k,aA hk3,hw3,aA hw4,aA hw5,NK,aD,aD]
     by_cases ho:Dn (nth aN own (y -1)) x≤0
     ·rw[cq ho,dK k,aA hk3]
      exact yes (by unfold tx;rw[aA ⟨hkF,hkT,Or.inr ho⟩])
     ·rw[aB (fun h=>ho (bY h))]
      exact no (by unfold tx;rw[aB (fun h=>h.2.2.elim hz ho)])
   ·rw[aB (fun h=>hlt (bY h))]
    refine⟨_,rfl,e,rfl,he,fun dy hdy=>?_⟩
    rw[hI dy hdy]
    split
    ·rfl
    ·rename_i hge
     unfold tx
     rw[aB]
     rintro⟨_,h2,_⟩
     exact hlt (Int.lt_of_le_of_lt (by omega) ((KN hdy).2 h2))
 rw[hlo]
 refine key dA lo c (by show _<18446744073709551616;omega) (cV _) hc fun dy hdy=>?_
 split
 ·rename_i h
  unfold tx
  rw[aB]
  rintro⟨h1,_,_⟩
  have:=(KM (a:=x.2.2.1.1) (c:=dy)).2 h1
  rw[hlo] at this
  omega
 ·rfl
def X0(own:Zh)(c dy:Nat)(v:Int):Prop:=0≤v∧v≤(c:Int)∧(((own.take c).foldl (gj (dy:Int)) (zF,false)).2=false→v=0)∧(((own.take c).foldl (gj (dy:Int)) (zF,false)).2=true→1≤v∧nth aN own (v -1)=((own.take c).foldl (gj (dy:Int)) (zF,false)).1)
theorem X0.next{own:Zh}{c dy:Nat}{v:Int}(h:X0 own c dy v)(hc:c<own.length):X0 own (c+1) dy (tx own c own[c] dy v):=by
 obtain⟨h0,h1,h2,h3⟩:=h
 unfold X0
 rw[List.take_succ_eq_append_getElem hc,List.foldl_append,List.foldl_cons,List.foldl_nil]
 generalize (own.take c).foldl (gj (dy:Int)) (zF,false)=st at h2 h3 ⊢
 have hx:nth aN own (((c+1:Nat):Int) -1)=own[c]:=by
  have e:(((c+1:Nat):Int) -1)=(c:Int):=by omega
  rw[e,cJ (t:=aN) hc]
 unfold tx gj
 have hiff:(own[c].2.2.1.1≤(dy:Int)∧(dy:Int)<own[c].2.2.1.2.1∧(v=0∨Dn (nth aN own (v -1)) own[c]≤0))↔(own[c].2.2.1.1≤(dy:Int)∧(dy:Int)<own[c].2.2.1.2.1∧(st.2=false∨Dn st.1 own[c]≤0)):=by
  cases hs:st.2 with
  |
   false=>
   have:=h2 hs
   exact⟨fun h=>⟨h.1,h.2.1,Or.inl rfl⟩,fun h=>⟨h.1,h.2.1,Or.inl this⟩⟩
  |
   true=>
   obtain⟨q1,q2⟩:=h3 hs
   rw[q2]
   exact⟨fun h=>⟨h.1,h.2.1,h.2.2.elim (fun h=>by omega) Or.inr⟩,fun h=>⟨h.1,h.2.1,h.2.2.elim (fun h=>by cases h) Or.inr⟩⟩
 by_cases hcnd:own[c].2.2.1.1≤(dy:Int)∧(dy:Int)<own[c].2.2.1.2.1∧(v=0∨Dn (nth aN own (v -1)) own[c]≤0)
 ·rw[aA hcnd,aA (hiff.1 hcnd)]
  exact⟨cu _,fQ _,fun h=>(by cases h),fun _=>⟨by omega,hx⟩⟩
 ·rw[aB hcnd,aB fun h=>hcnd (hiff.2 h)]
  exact⟨h0,by omega,h2,h3⟩
theorem W9(own:Zh)(hown:own.length≤1000):
 W (g8 (Int.toNat (List.length own:Int)+1) (own,own,(List.length own:Int),(0:Int),Ty.aH jX)) (CT (fun d=>∃c:Zd,d=(own,c)∧c.length=1024∧∀dy<1024,X0 own own.length dy (nth (.int .i64) c ((dy:Nat):Int))) fun _=>False):=by
 have hB:=hB
 have hz:(ko:Zd).length=1024:=by unfold ko;rw[gn]
 have hz0:∀dy<1024,nth (.int .i64) ko ((dy:Nat):Int)=0:=fun dy hdy=>by
  rw[cJ (t:=.int .i64) (by rw[hz];exact hdy)]
  unfold ko
  rw[List.getElem_replicate]
 refine bW (L:=g8) rfl _ own.length (fun c(e:Zd)=>(own,own,(own.length:Int),(c:Int),e)) (fun c e=>e.length=1024∧∀dy<1024,X0 own c dy (nth (.int .i64) e ((dy:Nat):Int))) ?step ?stop _ 0 ko (by omega) (by omega) ⟨hz,fun dy hdy=>?_⟩
 case step=>
  rintro rec c e hc ⟨he,hI⟩ kk
  dsimp only
  have hw2:=fF c (by omega)
  have hcc:(c:Int)<(own.length:Int):=by omega
  rw[cq hcc,dK c,aA hcc,cJ (t:=aN) hc]
  refine aZ.2 ((W8 own hown c hc own[c] e he fun dy hdy=>⟨(hI dy hdy).1,(hI dy hdy).2.1⟩).ct (fun d hd=>?_) fun r hr=>hr.elim)
  obtain⟨c',rfl,h1,h2⟩:=hd
  dsimp only
  rw[hw2]
  exact kk c' ⟨h1,fun dy hdy=>by rw[h2 dy hdy];exact(hI dy hdy).next hc⟩
 case stop=>
  rintro rec e ⟨he,hI⟩
  dsimp only
  rw[eF (by omega)]
  exact⟨_,rfl,e,rfl,he,hI⟩
 rw[hz0 dy hdy]
 exact⟨fQ _,fQ _,fun _=>rfl,fun h=>(by cases h)⟩
def PV(l:Zh)(k:hJ)(dy known:Int):Int:=if(fk l k dy known).2=true then(fk l k dy known).1 else-1
theorem UT(l:Zh)(k:hJ)(dy known:Int):fk l k dy known=if 0≤PV l k dy known then(PV l k dy known,true) else(0,false):=by
 unfold PV fk
 dsimp only
 split
 ·rename_i h
  rw[aA rfl,aA h.2]
 ·rfl
theorem O3{l m:Zh}{k:hJ}{dy a b:Int}(h:PV l k dy a=PV m k dy b):fk l k dy a=fk m k dy b:=by
 rw[UT l,UT m,h]
theorem Gl(l:Zh)(k:hJ)(known:Int)(hl:l.length≤1000):∃V:Zd,fa l k known=some V∧V.length=1024∧∀dy<1024,nth (.int .i64) V ((dy:Nat):Int)=PV l k (dy:Int) known:=by
 have hB:=hB
 have hown:(l.filter (cL k known)).length≤1000:=cW (n7 ..) hl
 have e1:fW l k known=some (l.filter (cL k known)):=by
  unfold fW
  rw[aA (by omega)]
 obtain⟨z,ez,hz⟩:=W9 (l.filter (cL k known)) hown
 cases z with
 |ret r=>exact hz.elim
 |
  aS d=>
  obtain⟨c,rfl,hc,hI⟩:=hz
  have iq:Nu (l.filter (cL k known)) c=true:=by
   unfold Nu
   refine List.all_eq_true.2 fun x hx=>?_
   obtain⟨j,hj,rfl⟩:=iG hx
   have:=(hI j (by omega)).2.1
   rw[cJ (t:=.int .i64) hj] at this
   rw[bR (show c[j]≤((l.filter (cL k known)).length:Int) from this),bR (show((l.filter (cL k known)).length:Int)≤1000 by omega)]
   rfl
  refine⟨c.map (lR (l.filter (cL k known))),?_,by rw[gv];exact hc,fun dy hdy=>?_⟩
  ·unfold fa
   rw[e1,aD,ez,aC,aA hc,aA iq]
  ·have hI:=hI dy hdy
   have hd:dy<c.length:=by omega
   rw[cJ (t:=.int .i64) hd] at hI
   rw[cJ (t:=.int .i64) (by rw[gv];exact hd),List.getElem_map]
   obtain⟨h0,h1,h2,h3⟩:=hI
   rw[List.take_length] at h2 h3
   have est:(l.filter (cL k known)).foldl (gj (dy:Int)) (zF,false)=iQ k (dy:Int) known l (zF,false):=rfl
   rw[est] at h2 h3
   unfold lR PV fk
   dsimp only
   generalize iQ k (dy:Int) known l (zF,false)=st at h2 h3 ⊢
   generalize c[dy]=v at h0 h1 h2 h3 ⊢
   by_cases hs:st.2=true
   ·obtain⟨q1,q2⟩:=h3 hs
    rw[aA (show(0:Int)<v by omega),q2]
    by_cases hp:0≤st.1.2.1
    ·have e:(if st.2=true∧0≤st.1.2.1 then(st.1.2.1,true) else((0:Int),false))=(st.1.2.1,true):=aA ⟨hs,hp⟩
     rw[e,aA rfl]
     exact W6 hp
    ·have e:(if st.2=true∧0≤st.1.2.1 then(st.1.2.1,true) else((0:Int),false))=(0,false):=aB (fun h=>hp h.2)
     rw[e,aB (by decide)]
     exact W7 hp
   ·have hv:=h2 (by simpa using hs)
    have e:(if st.2=true∧0≤st.1.2.1 then(st.1.2.1,true) else((0:Int),false))=(0,false):=aB (fun h=>hs h.1)
    rw[aB (by omega),e,aB (by decide)]
def COV(A B:Zd)(j:Nat)(m:Zv):Prop:=m.length≤j∧∀dy<j,nth (.int .i64) A ((dy:Nat):Int)≠nth (.int .i64) B ((dy:Nat):Int)→∃s∈m,s.1≤(dy:Int)∧(dy:Int)<s.2.1
theorem aa6(A B:Zd)(m:Zv)(hm:m.length≤1024):∀(n a:Nat)(e:uc),1024 -a<n→a<1024→
 W (dJ n (A,B,(a:Int),e,m)) (CT (fun r=>∃a':Nat,∃e':uc,r=(A,B,(a':Int),e',m)∧a≤a'∧a'<1024∧nth (.int .i64) A ((a':Nat):Int)=nth (.int .i64) B ((a':Nat):Int)∧e'.1=e.1∧(e.2.1=(a:Int)∨a<a'→e'.2.1=(a':Int))) fun r=>∃e':uc,r= .ret (.aS (m++[e']))∧e'.1=e.1∧e'.2.1=1024):=by
 intro n
 have hB:=hB
 induction n with
 |zero=>intro a e h;omega
 |
  succ n ih=>
  intro a e hn ha
  unfold dJ at ih ⊢
  rw[aK]
  generalize aL _ n=rec at ih ⊢
  dsimp only
  have h3:(a:Int)<(1024:Int):=by omega
  have hw2:=fF a (by omega)
  rw[dK a,aA h3,dK a,aA h3,hw2]
  by_cases hab:nth (.int .i64) A ((a:Nat):Int)=nth (.int .i64) B ((a:Nat):Int)
  ·rw[aB (show¬(!decide (nth (.int .i64) A ((a:Nat):Int)=nth (.int .i64) B ((a:Nat):Int)))=true by rw[bR hab];decide)]
   exact⟨_,rfl,a,e,rfl,cV _,ha,hab,rfl,fun h=>h.elim id fun h=>absurd h (Nat.lt_irrefl _)⟩
  ·rw[aA (show(!decide (nth (.int .i64) A ((a:Nat):Int)=nth (.int .i64) B ((a:Nat):Int)))=true by rw[cD hab];rfl)]
   by_cases h4:a+1=1024
   ·have h5:((a+1:Nat):Int)=(1024:Int):=by omega
    rw[cq h5,aA (by rw[bD];omega)]
    exact⟨_,rfl,_,rfl,rfl,h5⟩
   ·have h5:¬((a+1:Nat):Int)=(1024:Int):=by omega
    rw[aB (fun h=>h5 (bY h))]
    refine(ih (a+1) (e.1,(((a+1:Nat):Int),e.2.2)) (by omega) (by omega)).ct (fun r hr=>?_) fun r hr=>?_
    ·obtain⟨a',e',rfl,g1,g2,g3,g4,g5⟩:=hr
     exact⟨a',e',rfl,by omega,g2,g3,g4,fun _=>g5 (Or.inl rfl)⟩
    ·exact hr
theorem aa7(A B:Zd):∀(n j:Nat)(m:Zv),1024 -j<n→j≤1024→COV A B j m→
 W (fj n (A,B,(j:Int),m)) (CT (fun L=>COV A B 1024 L) fun _=>False):=by
 intro n
 have hB:=hB
 induction n with
 |zero=>intro j m h;omega
 |
  succ n ih=>
  intro j m hn hj hm
  unfold fj at ih ⊢
  rw[aK]
  generalize aL _ n=rec at ih ⊢
  dsimp only
  by_cases h:j<1024
  ·have h3:(j:Int)<(1024:Int):=by omega
   have hw2:=fF j (by omega)
   rw[cq h3,dK j,aA h3,dK j,aA h3]
   by_cases hab:nth (.int .i64) A ((j:Nat):Int)=nth (.int .i64) B ((j:Nat):Int)
   ·rw[cq hab,aC]
    dsimp only
    rw[hw2]
    refine ih (j+1) m (by omega) (by omega) ⟨by have:=hm.1;omega,fun dy hdy hne=>?_⟩
    by_cases e:dy=j
    ·subst e;exact absurd hab hne
    ·exact hm.2 dy (by omega) hne
   ·rw[aB (fun h=>hab (bY h))]
    refine aZ.2 (aZ.2 ((aa6 A B m (by have:=hm.1;omega) dA j ((j:Int),((0:Int),())) (by show _<18446744073709551616;omega) h).ct (fun r hr=>?_) fun r hr=>?_))
    ·obtain⟨a',e',rfl,g1,g2,g3,g4,g5⟩:=hr
     have g6:j<a':=by
      rcases Nat.lt_or_ge j a' with h|h
      ·exact h
      ·have:a'=j:=by omega
       subst this
       exact absurd g3 hab
     dsimp only
     rw[aA (show(m.length+List.length [e'])*16≤aF by rw[bD];have:=hm.1;omega)]
     refine⟨_,rfl,?_⟩
     refine ih a' (m++[e']) (by omega) (by omega) ⟨by rw[cz,bD];have:=hm.1;omega,fun dy hdy hne=>?_⟩
     by_cases e:dy<j
     ·obtain⟨s,hs,q⟩:=hm.2 dy e hne
      exact⟨s,iF _ hs,q⟩
     ·refine⟨e',iX _ (List.mem_singleton.2 rfl),?_,?_⟩
      ·have q:e'.1=(j:Int):=g4
       rw[q];omega
      ·have q:e'.2.1=(a':Int):=g5 (Or.inr g6)
       rw[q];omega
    ·obtain⟨e',rfl,g4,g5⟩:=hr
     show COV A B 1024 (m++[e'])
     refine⟨by rw[cz,bD];have:=hm.1;omega,fun dy hdy hne=>?_⟩
     by_cases e:dy<j
     ·obtain⟨s,hs,q⟩:=hm.2 dy e hne
      exact⟨s,iF _ hs,q⟩
     ·refine⟨e',iX _ (List.mem_singleton.2 rfl),?_,?_⟩
      ·have q:e'.1=(j:Int):=g4
       rw[q];omega
      ·have q:e'.2.1=1024:=g5
       rw[q];omega
  ·have e:j=1024:=by omega
   subst e
   rw[aB (by decide)]
   exact⟨_,rfl,hm⟩
theorem diff_eq(A B:Zd):∃L,ij A B=some L∧COV A B 1024 L:=by
 obtain⟨z,ez,hz⟩:=aa7 A B dA 0 [] (by decide) (by omega) ⟨cV _,fun dy h=>absurd h (Nat.not_lt_zero _)⟩
 cases z with
 |ret r=>exact hz.elim
 |
  aS L=>
  refine⟨L,?_,hz⟩
  rw[mr]
  unfold iy
  have ez':fj dA (A,B,(0:Int),([]:Zv))=some (.aS L):=ez
  rw[ez',aC]
theorem O4(l:Zh)(hf:l.length≤1000000):∃ix:ZD,PJ l=some (some ix)∧∀key,aO aR (.slice 64 aN) key ix=dr key l:=by
 have hB:=hB
 suffices hW:W (PJ l) fun r=>∃ix:ZD,r=some ix∧∀key,aO aR (.slice 64 aN) key ix=dr key l by
  obtain⟨r,e,ix,rfl,h⟩:=hW
  exact⟨ix,e,h⟩
 unfold PJ
 refine aZ.2 (W.ct (bW (L:=wg) rfl (CT (fun ix=>∀key,aO aR (.slice 64 aN) key ix=dr key l) fun _=>False) l.length (fun c(ix:ZD)=>(l,(l.length:Int),(c:Int),ix)) (fun c ix=>ix.length≤2*c∧∀key,aO aR (.slice 64 aN) key ix=dr key (l.take c)) ?step ?stop _ 0 [] (by omega) (by omega) ⟨cX _,fun key=>rfl⟩) (fun r hr=>⟨_,rfl,r,rfl,hr⟩) fun r hr=>hr.elim)
 case step=>
  rintro rec c ix hc ⟨hl,hI⟩ kk
  dsimp only
  have hw2:=fF c (by omega)
  have hcc:(c:Int)<(l.length:Int):=by omega
  rw[cq hcc,dK c,aA hcc,cJ (t:=aN) hc]
  have ht:=gJ l c hc
  generalize l[c]=x at ht ⊢
  have h1:(aO aR (.slice 64 aN) x.1 ix).length≤l.length:=by
   rw[hI x.1]
   exact cW (n7 ..) (by rw[gE];omega)
  rw[aA ((dw aR x.1 x.1).2 rfl),aA (show ix.length+1≤aF by omega),aA (show((aO aR (.slice 64 aN) x.1 ix).length+List.length [x])*64≤aF by rw[bD];omega),hw2]
  refine kk _ ⟨?_,fun key=>?_⟩
  ·have q1:(bK aR x.1 (Ty.aH (.slice 64 aN)) ix).length≤ix.length+1:=dp (kt:=aR)
   have q2:(bK aR x.1 (aO aR (.slice 64 aN) x.1 ix++[x]) (bK aR x.1 (Ty.aH (.slice 64 aN)) ix)).length≤(bK aR x.1 (Ty.aH (.slice 64 aN)) ix).length+1:=dp (kt:=aR)
   omega
  ·rw[ht,kP]
   by_cases e:key=x.1
   ·subst e
    rw[dj (kt:=aR) (vt:=.slice 64 aN) rfl,hI,aA ((dw aR x.1 x.1).2 rfl)]
   ·rw[cT (kt:=aR) (vt:=.slice 64 aN) rfl e,cT (kt:=aR) (vt:=.slice 64 aN) rfl e,hI,aB (fun h=>e ((dw aR x.1 key).1 h).symm),cw]
 case stop=>
  rintro rec ix ⟨hl,hI⟩
  dsimp only
  rw[eF (by omega)]
  rw[List.take_length] at hI
  exact⟨_,rfl,hI⟩
theorem KQ(l:Zh)(k:hJ)(dy known:Int):fk (dr k l) k dy known=fk l k dy known:=by
 have e:(dr k l).filter (cL k known)=l.filter (cL k known):=by
  unfold dr
  rw[List.filter_filter]
  refine List.filter_congr fun x _=>?_
  unfold cL
  cases bM aR x.1 k<;>simp
 unfold fk iQ
 rw[e]
def Dk(l:Zh)(a b:Int)(k:hJ):Zv:=(Option.bind (fa (dr k l) k a) fun V=>Option.bind (fa (dr k l) k b) fun X=>ij V X).getD []
theorem UU(l:Zh)(hl:l.length≤1000)(a b:Int)(k:hJ):∃V X,fa (dr k l) k a=some V∧fa (dr k l) k b=some X∧ij V X=some (Dk l a b k)∧(Dk l a b k).length≤1024∧
 ∀dy<1024,fk l k ((dy:Nat):Int) a≠fk l k ((dy:Nat):Int) b→∃s∈Dk l a b k,s.1≤(dy:Int)∧(dy:Int)<s.2.1:=by
 have hk:(dr k l).length≤1000:=cW (n7 ..) hl
 obtain⟨V,e1,v1,v2⟩:=Gl (dr k l) k a hk
 obtain⟨X,e2,x1,x2⟩:=Gl (dr k l) k b hk
 obtain⟨L,e3,c1,c2⟩:=diff_eq V X
 have eD:Dk l a b k=L:=by unfold Dk;rw[e1,aD,e2,aD,e3];rfl
 refine⟨V,X,e1,e2,by rw[eD];exact e3,by rw[eD];exact c1,fun dy hdy hne=>?_⟩
 rw[eD]
 refine c2 dy hdy fun he=>hne ?_
 rw[v2 dy hdy,x2 dy hdy] at he
 rw[←KQ l,←KQ l k _ b]
 exact O3 he
def O5(l:Zh)(a b:Int)(q:oE):Prop:=∀s∈Dk l a b q.1,¬imax s.1 q.2.1<rp s.2.1 q.2.2.1
theorem O5.at'{l:Zh}(hl:l.length≤1000){a b:Int}{q:oE}(h:O5 l a b q){dy:Nat}(hdy:dy<1024)(h0:q.2.1≤(dy:Int))(h1:(dy:Int)<q.2.2.1):fk l q.1 ((dy:Nat):Int) a=fk l q.1 ((dy:Nat):Int) b:=by
 obtain⟨V,X,_,_,_,_,hc⟩:=UU l hl a b q.1
 refine Classical.byContradiction fun hne=>?_
 obtain⟨s,hs,s0,s1⟩:=hc dy hdy hne
 refine h s hs ?_
 unfold imax rp
 split<;>split<;>omega
theorem Ts(a b:Int)(M:Ix)(rs:Zi)(n i:Int)(q:oE)(t:Ny)(L:Zv)(hL:L.length≤1024):
 W (nV (Int.toNat (List.length L:Int)+1) (a,b,M,rs,n,i,L,(List.length L:Int),(0:Int),q,t)) (CT (fun r=>r=(a,b,M,rs,n,i,t)∧∀s∈L,¬imax s.1 q.2.1<rp s.2.1 q.2.2.1) fun r=>r= .ret false):=by
 refine bW (L:=nV) rfl _ L.length (fun c(_:Unit)=>(a,b,M,rs,n,i,L,(L.length:Int),(c:Int),q,t)) (fun c _=>∀j(hj:j<L.length),j<c→¬imax L[j].1 q.2.1<rp L[j].2.1 q.2.2.1) ?step ?stop _ 0 () (by omega) (by omega) (fun j _ h=>absurd h (Nat.not_lt_zero _))
 case step=>
  intro rec c _ hc hI kk
  dsimp only
  have hw2:=fF c (by omega)
  have hcc:(c:Int)<(L.length:Int):=by omega
  rw[cq hcc,dK c,aA hcc,cJ (t:=fS) hc]
  by_cases h:imax L[c].1 q.2.1<rp L[c].2.1 q.2.2.1
  ·rw[cq h];exact⟨_,rfl,rfl⟩
  ·rw[aB (fun h'=>h (bY h')),hw2]
   refine kk () fun j hj hjc=>?_
   by_cases e:j=c
   ·subst e;exact h
   ·exact hI j hj (by omega)
 case stop=>
  intro rec _ hI
  dsimp only
  rw[eF (by omega)]
  refine⟨_,rfl,rfl,fun s hs=>?_⟩
  obtain⟨j,hj,rfl⟩:=iG hs
  exact hI j hj hj
theorem AR(l:Zh)(hl:l.length≤1000)(rs:Zi)(hr:rs.length≤1000000000)(a b:Int):∃r,Ln l rs a b=some r∧(r=true→∀q∈rs,O5 l a b q):=by
 have hB:=hB
 suffices hW:W (Ln l rs a b) fun r=>r=true→∀q∈rs,O5 l a b q by
  obtain⟨r,e,h⟩:=hW
  exact⟨r,e,h⟩
 obtain⟨ix,e1,hix⟩:=O4 l (by omega)
 unfold Ln
 rw[e1,aD]
 refine aZ.2 (W.ct (bW (L:=we) rfl (CT (fun _=>∀j(hj:j<rs.length),O5 l a b rs[j]) fun r=>r=false) rs.length (fun c(t:Ny)=>(a,b,some ix,rs,(rs.length:Int),(c:Int),t)) (fun c t=>t.length≤c∧(∀k,ep aR k t=true→aO aR (.slice 16 fS) k t=Dk l a b k)∧∀j(hj:j<rs.length),j<c→O5 l a b rs[j]) ?step ?stop _ 0 [] (by omega) (by omega) ⟨cV _,fun k h=>(by cases h),fun j _ h=>absurd h (Nat.not_lt_zero _)⟩) (fun r hr=>?_) fun r hr=>?_)
 case step=>
  rintro rec c t hc ⟨ht,hC,hI⟩ kk
  dsimp only
  have hw2:=fF c (by omega)
  have hcc:(c:Int)<(rs.length:Int):=by omega
  rw[cq hcc,dK c,aA hcc,cJ (t:=bN) hc]
  have hI2:O5 l a b rs[c]→∀j(hj:j<rs.length),j<c+1→O5 l a b rs[j]:=fun h j hj hjc=>by
   by_cases e:j=c
   ·subst e;exact h
   ·exact hI j hj (by omega)
  generalize rs[c]=q at hI2 ⊢
  obtain⟨V,X,p1,p2,p3,p4,_⟩:=UU l hl a b q.1
  have fin:∀t':Ny,t'.length≤c+1→(∀k,ep aR k t'=true→aO aR (.slice 16 fS) k t'=Dk l a b k)→aO aR (.slice 16 fS) q.1 t'=Dk l a b q.1→
   W (nV (Int.toNat (List.length (aO aR (.slice 16 fS) q.1 t'):Int)+1) (a,b,some ix,rs,(rs.length:Int),(c:Int),aO aR (.slice 16 fS) q.1 t',(List.length (aO aR (.slice 16 fS) q.1 t'):Int),(0:Int),q,t')) (CT (fun d=>W (rec (d.1,d.2.1,d.2.2.1,d.2.2.2.1,d.2.2.2.2.1,aQ (d.2.2.2.2.2.1+(1:Int)),d.2.2.2.2.2.2)) (CT (fun _=>∀j(hj:j<rs.length),O5 l a b rs[j]) fun r=>r=false)) (CT (fun _=>∀j(hj:j<rs.length),O5 l a b rs[j]) fun r=>r=false)):=fun t' h1 h2 h3=>by
   rw[h3]
   refine(Ts a b (some ix) rs (rs.length:Int) (c:Int) q t' (Dk l a b q.1) p4).ct (fun d hd=>?_) fun r hr=>?_
   ·obtain⟨rfl,hd⟩:=hd
    dsimp only
    rw[hw2]
    exact kk t' ⟨h1,h2,hI2 hd⟩
   ·subst hr;exact rfl
  refine aZ.2 ?_
  cases hm:ep aR q.1 t with
  |
   true=>
   rw[aB (show¬(!true)=true by decide),aC]
   exact fin t (by omega) hC (hC _ hm)
  |
   false=>
   have e2:aO aR (.slice 64 aN) q.1 (bA (some ix))=dr q.1 l:=hix q.1
   rw[aA (show(!false)=true from rfl),e2,p1,aD,p2,aD,p3,aD,aA (show t.length+1≤aF by omega),aC]
   refine fin (bK aR q.1 (Dk l a b q.1) t) (cW (dp (kt:=aR)) (by omega)) (fun k hk=>?_) (dj (kt:=aR) (vt:=.slice 16 fS) rfl _ _ _)
   by_cases e:k=q.1
   ·subst e;exact dj (kt:=aR) (vt:=.slice 16 fS) rfl _ _ _
   ·rw[qJ (kt:=aR) rfl e] at hk
    rw[cT (kt:=aR) (vt:=.slice 16 fS) rfl e]
    exact hC k hk
 case stop=>
  rintro rec t ⟨ht,hC,hI⟩
  dsimp only
  rw[eF (by omega)]
  exact⟨_,rfl,fun j hj=>hI j hj hj⟩
 ·refine⟨_,rfl,fun _ q hq=>?_⟩
  obtain⟨j,hj,rfl⟩:=iG hq
  exact hr j hj
 ·subst hr;exact fun h=>(by cases h)
abbrev Rs:=xw
abbrev In:=jB
abbrev Rd:=oE
abbrev Ru:=eU
abbrev An:=Bool×In×List Rd
inductive Qy(α:Type) where
 |ret:α→Qy α
 |ask:Pl→(Bool→In→Qy α)→Qy α
def Qy.bind{α β:Type}:Qy α→(α→Qy β)→Qy β
 | .ret a,f=>f a
 | .ask p k,f=>.ask p fun b x=>(k b x).bind f
def Qy.run{α:Type}(O:Pl→An):Qy α→α×List Rd
 | .ret a=>(a,[])
 | .ask p k=>(((k (O p).1 (O p).2.1).run O).1,(O p).2.2++((k (O p).1 (O p).2.1).run O).2)
theorem Qy.run_bind{α β:Type}(O:Pl→An)(f:α→Qy β):∀x:Qy α,(x.bind f).run O=(((f (x.run O).1).run O).1,(x.run O).2++((f (x.run O).1).run O).2)
 | .ret a=>rfl
 |
  .ask p k=>by
  show((((k (O p).1 (O p).2.1).bind f).run O).1,(O p).2.2++(((k (O p).1 (O p).2.1).bind f).run O).2)=((((f ((k (O p).1 (O p).2.1).run O).1)).run O).1,((O p).2.2++((k (O p).1 (O p).2.1).run O).2)++((f ((k (O p).1 (O p).2.1).run O).1).run O).2)
  rw[Qy.run_bind O f (k (O p).1 (O p).2.1),iH]
theorem Qy.two{α:Type}{O O':Pl→An}{G:Rd→Prop}{σ:Rd→Rd}(h:∀p,(∀r∈(O p).2.2,G r)→O' p=((O p).1,(O p).2.1,(O p).2.2.map σ)):∀x:Qy α,(∀r∈(x.run O).2,G r)→x.run O'=((x.run O).1,(x.run O).2.map σ)
 | .ret a,_=>rfl
 |
  .ask p k,hG=>by
  have h1:=h p fun r hr=>hG r (iF _ hr)
  have h2:=Qy.two h (k (O p).1 (O p).2.1) fun r hr=>hG r (iX _ hr)
  unfold Qy.run
  rw[h1,h2,qN]
open Classical in
def aT:List Rd→List Rd→List Rd
 |rs,[]=>rs
 |rs,r::t=>aT (if r∈rs then rs else rs++[r]) t
theorem bT:∀(a rs b:List Rd),aT rs (a++b)=aT (aT rs a) b
 |[],_,_=>rfl
 |r::a,rs,b=>bT a (if r∈rs then rs else rs++[r]) b
theorem eP:∀(t rs:List Rd)(x:Rd),x∈aT rs t↔x∈rs∨x∈t
 |[],rs,x=>by simp[aT]
 |
  r::t,rs,x=>by
  unfold aT
  rw[eP t]
  by_cases h:r∈rs
  ·rw[aA h,eN]
   exact⟨fun h=>h.imp id Or.inr,fun h'=>h'.elim Or.inl fun h'=>h'.elim (fun e=>Or.inl (e▸h)) Or.inr⟩
  ·rw[aB h,eN,j5,lC,or_assoc]
theorem gR:∀(t rs:List Rd),(∀r∈t,r∈rs)→aT rs t=rs
 |[],_,_=>rfl
 |
  r::t,rs,h=>by
  unfold aT
  rw[aA (h r (dx ..))]
  exact gR t rs fun x hx=>h x (dH _ hx)
def SJ(se:SM)(rs:List Rd):Prop:=∀r,aO bN .bool r se=true↔r∈rs
theorem fL:∀(n:List Rd)(se:SM)(acc:List Rd)(s':SM)(a':List Rd),eT n se acc=some (s',a')→SJ se acc→a'=aT acc n∧SJ s' a'
 |
  [],se,acc,s',a',h,hs=>by
  cases h
  exact⟨rfl,hs⟩
 |
  r::n,se,acc,s',a',h,hs=>by
  unfold eT at h
  unfold aT
  split at h
  ·rename_i hm
   rw[aA ((hs r).1 hm)]
   exact fL n se acc s' a' h hs
  ·rename_i hm
   rw[aB fun hr=>hm ((hs r).2 hr)]
   split at h
   ·split at h
    ·refine fL n _ _ s' a' h fun x=>?_
     rw[j5,lC]
     by_cases e:x=r
     ·subst e
      rw[dj (kt:=bN) (vt:=.bool) rfl]
      exact⟨fun _=>Or.inr rfl,fun _=>rfl⟩
     ·rw[cT (kt:=bN) (vt:=.bool) rfl e,hs x]
      exact⟨Or.inl,fun h=>h.elim id fun h=>absurd h e⟩
    ·cases h
   ·cases h
def w0(s:bF):aV:=((s,([],())),([],()))
def gp(s:bF)(u:Ru)(l:List In):Bool:=match fE u (w0 s) none 0 0 false none () l [] [] [] with
 |some r=>r.1
 |none=>false
def cK(s:bF)(u:Ru)(p:Int)(l:List In):In:=match fD u p l (w0 s) none 0 0 false none () [] [] [] with
 |some r=>r.2.2.2.2.2.2.2.2.2.2
 |none=>(0,(0,(0,([],()))))
def bQ(u:Ru)(p:Int)(l:List In):Int:=
 if(nth bG u.2.2.1 (l.length:Int)).2.2.2.1.2.2.1= -1 then p else nth (.int .i64) (nth bS l (nth bG u.2.2.1 (l.length:Int)).2.2.2.1.2.2.1).2.2.2.1 (nth bG u.2.2.1 (l.length:Int)).2.2.2.1.2.2.2.1
def dg(look:Pl→Qy Rs)(ch:List In→Qy (Bool×List In))(a o:Int)(l:List In):Nat→Nat→Qy (Bool×List In)
 |0,_=>.ret (false,l)
 |n+1,c=>(look (a,(o,((c:Int),())))).bind fun x=>if x.2.2.2.1=true then(ch (l++[x.1])).bind fun y=>if y.1=true then .ret y else dg look ch a o l n (c+1) else dg look ch a o l n (c+1)
def bC(m:DM)(a:Int):Nat:=if aO (.int .i64) .bool a (bA m)=true then 1 else 4
def aW(look:Pl→Qy Rs)(s:bF)(m:DM)(u:Ru)(p:Int):Nat→List In→Qy (Bool×List In)
 |0,l=>.ret (gp s u l,l)
 |n+1,l=>dg look (aW look s m u p n) (nth bG u.2.2.1 (l.length:Int)).2.2.1 (bQ u p l) l (bC m (nth bG u.2.2.1 (l.length:Int)).2.2.1) 0
def zR:Rs:=((0,(0,(0,([],())))),(0,([],(false,()))))
def cM(ch:Ru→Qy (Bool×List In))(bd:Ru→List In→In)(R:List Ru)(a:Int):Nat→Nat→Qy Rs
 |0,_=>.ret zR
 |n+1,c=>if(nth bX R (c:Int)).2.1=a then(ch (nth bX R (c:Int))).bind fun y=>if y.1=true then .ret (bd (nth bX R (c:Int)) y.2,((c:Int),(y.2,(true,())))) else cM ch bd R a n (c+1) else cM ch bd R a n (c+1)
def dt(s:bF)(m:DM)(look:Pl→Qy Rs)(p:Pl):Qy Rs:=
 if aO (.int .i64) .bool p.1 (bA m)=true then cM (fun u=>aW look s m u p.2.1 u.2.2.1.length []) (fun u l=>cK s u p.2.1 l) s.2.2.2.1 p.1 s.2.2.2.1.length 0 else .ask p fun b x=>.ret (x,(0,([],(b,()))))
def jK(s:bF)(m:DM):Nat→Pl→Qy Rs
 |0,_=>.ret zR
 |n+1,p=>dt s m (jK s m n) p
theorem fb{k1 k2:Pl→Qy Rs}{ch1 ch2:List In→Qy (Bool×List In)}{a:Int}{l:List In}(h:∀y,k1 (a,y)=k2 (a,y))(hc:∀x,ch1 (l++[x])=ch2 (l++[x]))(o:Int):∀n c,dg k1 ch1 a o l n c=dg k2 ch2 a o l n c
 |0,_=>rfl
 |
  n+1,c=>by
  unfold dg
  rw[h,fb h hc o n]
  simp only[hc]
theorem eH{k1 k2:Pl→Qy Rs}{s:bF}{m:DM}{u:Ru}(h:∀v∈u.2.2.1,∀y,k1 (v.2.2.1,y)=k2 (v.2.2.1,y))(p:Int):∀n l,l.length+n=u.2.2.1.length→aW k1 s m u p n l=aW k2 s m u p n l
 |0,_,_=>rfl
 |n+1,l,hl=>fb (h _ (bE (t:=bG) (l:=u.2.2.1) (cu l.length) (by omega))) (fun x=>eH h p n (l++[x]) (by rw[cz,bD];omega)) _ _ _
theorem fc{c1 c2:Ru→Qy (Bool×List In)}{bd:Ru→List In→In}{R:List Ru}{a:Int}(h:∀u∈R,u.2.1=a→c1 u=c2 u):∀n c,c+n≤R.length→cM c1 bd R a n c=cM c2 bd R a n c
 |0,_,_=>rfl
 |
  n+1,c,hc=>by
  unfold cM
  rw[fc h n (c+1) (by omega)]
  split
  ·rename_i hu
   rw[h _ (bE (t:=bX) (l:=R) (cu c) (by omega)) hu]
  ·rfl
theorem gi{k1 k2:Pl→Qy Rs}{s:bF}{m:DM}{p:Pl}(h:∀u∈s.2.2.2.1,u.2.1=p.1→∀v∈u.2.2.1,∀y,k1 (v.2.2.1,y)=k2 (v.2.2.1,y)):dt s m k1 p=dt s m k2 p:=by
 unfold dt
 rw[fc (fun u hu e=>eH (h u hu e) p.2.1 _ [] (ek _)) _ 0 (by omega)]
theorem fe{s:bF}{lo:Zd}(hr:∀u∈s.2.2.2.1,∀v∈u.2.2.1,lo.idxOf v.2.2.1<lo.idxOf u.2.1)(m:DM):∀n n' p,lo.idxOf p.1<n→lo.idxOf p.1<n'→jK s m n p=jK s m n' p
 |
  n+1,n'+1,p,h,h'=>gi fun u hu e v hv y=>by
  have:=hr u hu v hv
  rw[e] at this
  exact fe hr m n n' _ (show lo.idxOf v.2.2.1<n by omega) (show lo.idxOf v.2.2.1<n' by omega)
def LQ(s:bF)(m:DM)(lo:Zd)(p:Pl):Qy Rs:=jK s m (lo.idxOf p.1+1) p
theorem lG{s:bF}{lo:Zd}(hr:∀u∈s.2.2.2.1,∀v∈u.2.2.1,lo.idxOf v.2.2.1<lo.idxOf u.2.1)(m:DM)(p:Pl):LQ s m lo p=dt s m (LQ s m lo) p:=by
 show dt s m (jK s m (lo.idxOf p.1)) p=_
 refine gi fun u hu e v hv y=>?_
 have:=hr u hu v hv
 rw[e] at this
 exact fe hr m _ _ _ this (Nat.lt_succ_self _)
structure MY(w:aV)(PS:Zd)(U:List Pl)(ix:Ix)(d k:Int)(O:Pl→An):Prop where
 wy:WY w PS U ix
 ra:∀p:Pl,p.2.1∈PS→mU (w.1,(cY w.1.1 ix p,())) p.1 p.2.1 p.2.2.1 d k=some (O p)
structure MX(w:aV)(lo PS:Zd)(U:List Pl)(ix:Ix)(m:DM)(d k:Int)(O:Pl→An)(L:Pl→Qy Rs):Prop where
 wx:WX w lo PS U ix
 my:MY w PS U ix d k O
 fix:∀p,L p=dt w.1.1 m L p
variable{w:aV} {lo PS:Zd} {U:List Pl} {ix:Ix} {m:DM} {d k:Int} {O:Pl→An} {L:Pl→Qy Rs}
def FG(r:Rs):Prop:=r.2.2.1.length≤3∧∀y∈r.2.2.1,y.2.2.2.1.length≤1000
theorem FG.zero:FG zR:=⟨cX _,fun y hy=>(by cases hy)⟩
structure MI(s:bF)(PS:Zd)(U:List Pl)(O:Pl→An)(L:Pl→Qy Rs)(fo:FM)(se:SM)(rs:List Rd):Prop where
 fi:FI s PS U fo se rs
 vl:∀e∈fo,e.2=((L e.1).run O).1∧(∀r∈((L e.1).run O).2,r∈rs)∧FG ((L e.1).run O).1
 si:SJ se rs
theorem MI.nil(s:bF)(PS:Zd)(U:List Pl)(O:Pl→An)(L:Pl→Qy Rs):MI s PS U O L [] [] []:=⟨FI.nil s PS U,fun e he=>(by cases he),fun r=>⟨fun h=>(by cases h),fun h=>(by cases h)⟩⟩
theorem MI.put{s:bF}{fo:FM}{se se':SM}{rs:List Rd}(h:MI s PS U O L fo se rs){p:Pl}(hf:FI s PS U (bK aR p ((L p).run O).1 fo) se' (aT rs ((L p).run O).2))(hs:SJ se' (aT rs ((L p).run O).2))(hg:FG ((L p).run O).1):MI s PS U O L (bK aR p ((L p).run O).1 fo) se' (aT rs ((L p).run O).2) where
 fi:=hf
 vl e he:=by
  rcases dC (kt:=aR) he with rfl|he
  ·exact⟨rfl,fun r hr=>(eP ..).2 (Or.inr hr),hg⟩
  ·exact⟨(h.vl e he).1,fun r hr=>(eP ..).2 (Or.inl ((h.vl e he).2.1 r hr)),(h.vl e he).2.2⟩
 si:=hs
def LP(w:aV)(PS:Zd)(U:List Pl)(ix:Ix)(m:DM)(d k:Int)(O:Pl→An)(L:Pl→Qy Rs)(b:Bool)(z:Unit)(p:Pl)(rs:List Rd)(r:aV×Ix×Int×Int×Bool×DM×Unit×FM×SM×Rs×List Rd):Prop:=
 ∃fo se,r=(w,ix,d,k,b,m,z,fo,se,((L p).run O).1,aT rs ((L p).run O).2)∧MI w.1.1 PS U O L fo se (aT rs ((L p).run O).2)∧(((L p).run O).1.2.2.2.1=true→FV w.1.1 PS ((L p).run O).1.1 p.1)∧FG ((L p).run O).1
theorem rW(X:MY w PS U ix d k O)(q0:Q0)(q1:Q1)(p:Pl)(hf:L p=dt w.1.1 m L p)(b:Bool)(z:Unit){fo:FM}{se:SM}{rs:List Rd}(h:MI w.1.1 PS U O L fo se rs)(hU:p∈U)(hP:p.2.1∈PS)
 (hd:aO (.int .i64) .bool p.1 (bA m)=true→W (lA q0 q1 p w ix d k b m z fo se rs) (LP w PS U ix m d k O L b z p rs)):W (js q0 q1 p w ix d k b m z fo se rs) (LP w PS U ix m d k O L b z p rs):=by
 have hB:=hB
 unfold js
 cases hp:ep aR p fo with
 |
  true=>
  rw[aA rfl]
  obtain⟨i,hi⟩:=ow (kt:=aR) (vt:=fA) rfl hp
  have he:=n8 hi
  obtain⟨v1,v2,v3⟩:=h.vl _ he
  have v1:aO aR fA p fo=((L p).run O).1:=v1
  have hx:=h.fi.ok _ he
  rw[v1] at hx ⊢
  have e:=gR _ _ v2
  exact⟨_,rfl,fo,se,by rw[e],by rw[e];exact h,hx,v3⟩
 |
  false=>
  rw[aB (by decide)]
  cases hder:aO (.int .i64) .bool p.1 (bA m) with
  |
   true=>
   rw[aA rfl]
   refine aZ.2 (kK.2 ((hd hder).mono fun r hr=>?_))
   obtain⟨fo',se',rfl,h',hx,hg3⟩:=hr
   refine⟨_,rfl,?_⟩
   rw[kJ]
   dsimp only
   have hl:=h'.fi.len
   have hl2:=X.wy.len
   have hg:fo'.length≤(bK aR p ((L p).run O).1 fo').length:=ll (kt:=aR)
   have h1:=h'.fi.se
   have h2:=h'.fi.rs
   have e:=gR _ _ fun r hr=>(eP ((L p).run O).2 rs r).2 (Or.inr hr)
   rw[aA (show fo'.length+1≤aF by omega)]
   refine⟨_,rfl,_,_,rfl,?_,hx,hg3⟩
   have h3:MI w.1.1 PS U O L (bK aR p ((L p).run O).1 fo') se' (aT (aT rs ((L p).run O).2) ((L p).run O).2):=h'.put (by rw[e];exact h'.fi.put hU hx (by omega) (by omega)) (by rw[e];exact h'.si) hg3
   rw[e] at h3
   exact h3
  |
   false=>
   rw[aB (by decide)]
   obtain⟨M,y,x,n,se',rs',e1,e2,e3,hl,hr⟩:=rU X.wy p d k b m z h.fi hp hU hP
   have e1':=lq X.wy p d k b m z fo se rs
   rw[e1'] at e1
   have eL:cY w.1.1 ix p=M:=by
    have e:=fP e1
    simp only[jb,true_and,nc] at e
    exact e
   subst eL
   have eO:O p=(y,x,n):=fP ((X.ra p hP).symm.trans e2)
   have eq:(L p).run O=((x,(0,([],(y,())))),n):=by
    rw[hf]
    unfold dt
    rw[hder,aB (by decide)]
    unfold Qy.run
    rw[eO]
    unfold Qy.run
    rw[cw]
   have e4:lb n=some n:=rfl
   obtain⟨fo2,se2,x2,rs2,er,h',hx⟩:=hr
   cases er
   have hfr:eT n se rs=some (se',rs'):=by
    unfold gq at e3
    split at e3
    ·cases hq:eT n se rs with
     |none=>rw[hq] at e3;cases e3
     |some q=>rw[hq] at e3;cases e3;rfl
    ·cases e3
   obtain⟨s1,s2⟩:=fL n se rs se' rs' hfr h.si
   subst s1
   rw[e1',aD]
   dsimp only
   rw[dW,dW,dW,dW,e2,aD]
   dsimp only
   rw[e4,aD,e3,aD,aC]
   dsimp only
   rw[aA hl]
   have hg3:FG ((L p).run O).1:=by rw[eq];exact⟨cX _,fun y hy=>(by cases hy)⟩
   refine⟨_,rfl,_,_,by rw[eq],?_,by rw[eq];exact hx,hg3⟩
   have h3:MI w.1.1 PS U O L (bK aR p ((L p).run O).1 fo) se' (aT rs ((L p).run O).2):=h.put (by rw[eq];exact h') (by rw[eq];exact s2) hg3
   rw[eq] at h3 ⊢
   exact h3
theorem nw{u:Ru}{l:List In}(hN:NB w.1.1)(hw:u.2.2.2.1.length≤aF)(hR:RK (cR w.1.1 u))(hL:LI w.1.1 PS u l)(hl:l.length=u.2.2.1.length)(ix:Ix)(d k:Int)(b:Bool)(m:DM)(z:Unit)(fo:FM)(se:SM)(rs:List Rd):
 fE u w ix d k b m z l fo se rs=some (gp w.1.1 u l,w,ix,d,k,b,m,z,l,fo,se,rs):=by
 obtain⟨y,hy⟩:=ue hN hw hR hL hl
 have e:gp w.1.1 u l=y:=by unfold gp;rw[hy (w0 w.1.1) rfl none 0 0 false none () [] [] []]
 rw[e]
 exact hy w rfl ix d k b m z fo se rs
theorem lV{u:Ru}{l:List In}(hw:u.2.2.2.2.1.length≤aF)(hR:RK (cR w.1.1 u))(hL:LI w.1.1 PS u l)(hl:l.length=u.2.2.1.length)(hf:1≤(aP w.1.1 u.2.1).length)(hf2:(aP w.1.1 u.2.1).length≤1000)(p:Int)(hp:p∈PS)(h0:(0:Int)∈PS)(hc:∀t∈u.2.2.2.2.1,t.2.2.1.2.2.2.2.1∈PS):
 FV w.1.1 PS (cK w.1.1 u p l) u.2.1∧∀ix d k b m z fo se rs,fD u p l w ix d k b m z fo se rs=some (w,ix,d,k,b,m,z,fo,se,rs,cK w.1.1 u p l):=by
 obtain⟨x,hx,hy⟩:=qh hw hR hL hl hf hf2 p hp h0 hc
 have e:cK w.1.1 u p l=x:=by unfold cK;rw[hy (w0 w.1.1) rfl none 0 0 false none () [] [] []]
 rw[e]
 exact⟨hx,hy w rfl⟩
def CQ(w:aV)(PS:Zd)(U:List Pl)(ix:Ix)(m:DM)(d k:Int)(O:Pl→An)(L:Pl→Qy Rs)(b:Bool)(z:Unit)(u:Ru)(p:Int)(l:List In)(y:(Bool×List In)×List Rd)(rs:List Rd)(r:Bool×Ru×Int×aV×Ix×Int×Int×Bool×DM×Unit×FM×SM×List In×List Rd):Prop:=
 ∃fo se,r=(y.1.1,u,p,w,ix,d,k,b,m,z,fo,se,y.1.2,aT rs y.2)∧MI w.1.1 PS U O L fo se (aT rs y.2)∧(y.1.1=false→y.1.2=l)∧(y.1.1=true→LI w.1.1 PS u y.1.2∧y.1.2.length=u.2.2.1.length)
theorem qm(X:MX w lo PS U ix m d k O L)(q0:Q0)(q1:Q1)(p:Pl)(b:Bool)(z:Unit){fo:FM}{se:SM}{rs:List Rd}(h:MI w.1.1 PS U O L fo se rs)(hP:p.2.1∈PS)(hm:aO (.int .i64) .bool p.1 (bA m)=true)
 (hq:∀u∈w.1.1.2.2.2.1,u.2.1=p.1→∀fo se rs,MI w.1.1 PS U O L fo se rs→W (q1 (u,p.2.1,[],w,ix,d,k,b,m,z,fo,se,rs,())) (CQ w PS U ix m d k O L b z u p.2.1 [] ((aW L w.1.1 m u p.2.1 u.2.2.1.length []).run O) rs)):
 W (lA q0 q1 p w ix d k b m z fo se rs) (LP w PS U ix m d k O L b z p rs):=by
 have hB:=hB
 have hr:=X.wx.cg.sw.rules
 let Z:Nat→Rs×List Rd:=fun c=>(cM (fun u=>aW L w.1.1 m u p.2.1 u.2.2.1.length []) (fun u l=>cK w.1.1 u p.2.1 l) w.1.1.2.2.2.1 p.1 (w.1.1.2.2.2.1.length -c) c).run O
 have eZ:(L p).run O=Z 0:=by rw[X.fix p];unfold dt;rw[aA hm];rfl
 unfold lA
 refine aZ.2 (W.ct (B:=fun r=>(Z 0).1=zR∧∃fo' se',r=(w,ix,d,k,b,m,z,fo',se',(0:Int),(0:Int),(0:Int),(0:Int),false,aT rs (Z 0).2)∧MI w.1.1 PS U O L fo' se' (aT rs (Z 0).2)) (Q:=LP w PS U ix m d k O L b z p rs) ?_ (fun r hr=>?_) fun r hr=>hr)
 ·refine W.mono (gu (L:=pd q0 q1) rfl (fun c(s:FM×SM×List Rd)(r:dN _ _)=>CT (fun r=>(Z c).1=zR∧∃fo' se',r=(w,ix,d,k,b,m,z,fo',se',(0:Int),(0:Int),(0:Int),(0:Int),false,aT s.2.2 (Z c).2)∧MI w.1.1 PS U O L fo' se' (aT s.2.2 (Z c).2)) (fun r=>∃fo' se',r=(w,ix,d,k,b,m,z,fo',se',(Z c).1,aT s.2.2 (Z c).2)∧MI w.1.1 PS U O L fo' se' (aT s.2.2 (Z c).2)∧FV w.1.1 PS (Z c).1.1 p.1∧FG (Z c).1) r) w.1.1.2.2.2.1.length (fun c(s:FM×SM×List Rd)=>(w.1.1.2.2.2.1,(w.1.1.2.2.2.1.length:Int),(c:Int),w,ix,d,k,b,m,z,s.1,s.2.1,p,(0:Int),(0:Int),(0:Int),(0:Int),false,s.2.2)) (fun _ s=>MI w.1.1 PS U O L s.1 s.2.1 s.2.2) ?step ?stop _ 0 (fo,se,rs) (by omega) (by omega) h) fun r hr=> ?fin
  case fin=>
   refine CT.mono (fun _ h=>h) (fun r h=>?_) r hr
   obtain⟨fo',se',rfl,h',hx,hg⟩:=h
   unfold LP
   rw[eZ]
   exact⟨fo',se',rfl,h',fun _=>hx,hg⟩
  case step=>
   rintro rec c ⟨fo,se,rs⟩ hc hI kk
   dsimp only at hI ⊢
   have hw2:=fF c (by omega)
   have hc1:(c:Int)<(w.1.1.2.2.2.1.length:Int):=by omega
   have hmm:=bE (t:=bX) (l:=w.1.1.2.2.2.1) (cu c) hc1
   rw[cq hc1,dK c,aA hc1]
   have eq:Z c=(if(nth bX w.1.1.2.2.2.1 (c:Int)).2.1=p.1 then(aW L w.1.1 m (nth bX w.1.1.2.2.2.1 (c:Int)) p.2.1 (nth bX w.1.1.2.2.2.1 (c:Int)).2.2.1.length []).bind fun y=>if y.1=true then .ret (cK w.1.1 (nth bX w.1.1.2.2.2.1 (c:Int)) p.2.1 y.2,((c:Int),(y.2,(true,())))) else cM (fun u=>aW L w.1.1 m u p.2.1 u.2.2.1.length []) (fun u l=>cK w.1.1 u p.2.1 l) w.1.1.2.2.2.1 p.1 (w.1.1.2.2.2.1.length -(c+1)) (c+1) else cM (fun u=>aW L w.1.1 m u p.2.1 u.2.2.1.length []) (fun u l=>cK w.1.1 u p.2.1 l) w.1.1.2.2.2.1 p.1 (w.1.1.2.2.2.1.length -(c+1)) (c+1):Qy Rs).run O:=by
    show(cM _ _ _ _ _ _).run O=_
    rw[show w.1.1.2.2.2.1.length -c=(w.1.1.2.2.2.1.length -(c+1))+1 by omega]
    rfl
   rw[eq]
   generalize nth bX w.1.1.2.2.2.1 (c:Int)=u at hmm ⊢
   by_cases hu:u.2.1=p.1
   ·rw[aB (show¬(!decide (u.2.1=p.1))=true by simp[hu]),aA hu,Qy.run_bind]
    obtain⟨r,er,fo',se',rfl,h',y0,y1⟩:=hq u hmm hu fo se rs hI
    have ea:mf q0 q1 u p.2.1 w ix d k b m z fo se rs=(if(!((aW L w.1.1 m u p.2.1 u.2.2.1.length []).run O).1.1)=true then(some (false,w,ix,d,k,b,m,z,fo',se',([]:List In),aT rs ((aW L w.1.1 m u p.2.1 u.2.2.1.length []).run O).2)) else(some (true,w,ix,d,k,b,m,z,fo',se',((aW L w.1.1 m u p.2.1 u.2.2.1.length []).run O).1.2,aT rs ((aW L w.1.1 m u p.2.1 u.2.2.1.length []).run O).2))):=by
     unfold mf;rw[er];rfl
    rw[ea]
    generalize (aW L w.1.1 m u p.2.1 u.2.2.1.length []).run O=y at h' y0 y1 ⊢
    obtain⟨⟨y,l⟩,t⟩:=y
    dsimp only at h' y0 y1 ⊢
    cases y with
    |
     false=>
     rw[aA (show(!false)=true from rfl),aD]
     dsimp only
     rw[aB (by decide),aB (by decide),hw2,bT]
     exact kk (fo',se',aT rs t) h'
    |
     true=>
     obtain⟨hLI,hlen⟩:=y1 rfl
     have hR:=X.wx.cg.tg.rules u hmm
     have hf:=X.wx.cg.tg.fields _ (bE (t:=aU) (l:=w.1.1.2.2.1) hR.h0 hR.h1)
     have hs:=(X.wx.cg.sw.rl u hmm).2.2
     obtain⟨hx,hbu⟩:=lV (w:=w) (by omega) hR hLI hlen hf (X.wx.fl _ hR.h0 hR.h1) p.2.1 hP X.wx.zero (X.wx.consts u hmm)
     rw[aB (show¬(!true)=true by decide),aD]
     dsimp only
     rw[aA rfl,aA rfl,hbu ix d k b m z fo' se',aD]
     unfold Qy.run
     rw[cw]
     refine⟨_,rfl,fo',se',rfl,h',hu▸hx,?_,fun y hy=>?_⟩
     ·show l.length≤3
      rw[hlen];exact hR.n3
     ·obtain⟨j,hj,rfl⟩:=iG hy
      have hj2:j<l.length:=hj
      have hF:FO (cR w.1.1 u) j:=hR.fo j (show j<u.2.2.1.length by omega)
      have:=(hLI.ok (j:Int) (cu j) (by omega)).1
      rw[cJ (t:=bS) hj2] at this
      rw[this]
      exact X.wx.fl _ hF.s0 hF.s1
   ·rw[aA (show(!decide (u.2.1=p.1))=true by simp[hu]),aB hu,hw2]
    exact kk (fo,se,rs) hI
  case stop=>
   rintro rec ⟨fo,se,rs⟩ hI
   dsimp only at hI ⊢
   rw[eF (by omega)]
   have e:Z w.1.1.2.2.2.1.length=(zR,[]):=by
    show(cM _ _ _ _ (w.1.1.2.2.2.1.length -w.1.1.2.2.2.1.length) _).run O=_
    rw[Nat.sub_self];rfl
   rw[e]
   exact⟨_,rfl,rfl,fo,se,rfl,hI⟩
 ·obtain⟨e0,fo',se',rfl,h'⟩:=hr
  unfold LP
  rw[eZ,e0]
  exact⟨_,rfl,fo',se',rfl,h',fun h=>(by cases h),FG.zero⟩
variable{w:aV} {lo PS:Zd} {U:List Pl} {ix:Ix} {m:DM} {d k:Int} {O:Pl→An} {L:Pl→Qy Rs}
abbrev CH:Ru×Int×aV×Ix×Int×Int×Bool×DM×Unit×FM×SM×(List In)×(List Rd)→Option (Bool×Ru×Int×aV×Ix×Int×Int×Bool×DM×Unit×FM×SM×List In×List Rd):=fun x=>some (false,x.1,x.2.1,x.2.2.1,x.2.2.2.1,x.2.2.2.2.1,x.2.2.2.2.2.1,x.2.2.2.2.2.2.1,x.2.2.2.2.2.2.2.1,x.2.2.2.2.2.2.2.2.1,x.2.2.2.2.2.2.2.2.2.1,x.2.2.2.2.2.2.2.2.2.2.1,x.2.2.2.2.2.2.2.2.2.2.2.1,x.2.2.2.2.2.2.2.2.2.2.2.2)
theorem qn(q0:Q0)(q1:Q1)(u:Ru)(p:Int)(l:List In)(b:Bool)(z:Unit)(fo:FM)(se:SM)(rs:List Rd)(hlt:l.length<u.2.2.1.length)
 (ho:(nth bG u.2.2.1 (l.length:Int)).2.2.2.1.2.2.1= -1∨(0≤(nth bG u.2.2.1 (l.length:Int)).2.2.2.1.2.2.1∧(nth bG u.2.2.1 (l.length:Int)).2.2.2.1.2.2.1<(l.length:Int)∧0≤(nth bG u.2.2.1 (l.length:Int)).2.2.2.1.2.2.2.1∧(nth bG u.2.2.1 (l.length:Int)).2.2.2.1.2.2.2.1<((nth bS l (nth bG u.2.2.1 (l.length:Int)).2.2.2.1.2.2.1).2.2.2.1.length:Int))):
 fU q0 q1 u p l w ix d k b m z fo se rs=aG (U:=Ru×Int×aV×Ix×Int×Int×Bool×DM×Unit×FM×SM×(List In)×(List Rd)) (im q0 q1 (Int.toNat ((bC m (nth bG u.2.2.1 (l.length:Int)).2.2.1:Nat):Int)+1) (bQ u p l,((bC m (nth bG u.2.2.1 (l.length:Int)).2.2.1:Nat):Int),(0:Int),u,p,w,ix,d,k,b,m,z,fo,se,nth bG u.2.2.1 (l.length:Int),l,rs)) CH:=by
 unfold fU bQ bC
 rw[aB (show¬decide ((l.length:Int)=(u.2.2.1.length:Int))=true by simp;omega),dK _,aA (show(l.length:Int)<(u.2.2.1.length:Int) by omega)]
 generalize nth bG u.2.2.1 (l.length:Int)=v at ho
 by_cases hv:v.2.2.2.1.2.2.1= -1
 ·rw[aB (show¬(!decide (v.2.2.2.1.2.2.1=(-1:Int)))=true by simp[hv]),aC,aA hv]
  dsimp only
  by_cases hm:aO (.int .i64) .bool v.2.2.1 (bA m)=true
  ·rw[aA hm,aA hm,aC];rfl
  ·rw[aB hm,aB hm,aC];rfl
 ·obtain⟨a1,a2,a3,a4⟩:=ho.resolve_left hv
  rw[aA (show(!decide (v.2.2.2.1.2.2.1=(-1:Int)))=true by simpa using hv),aA a1,aA a2,aA a3,aA a4,aC,aB hv]
  dsimp only
  by_cases hm:aO (.int .i64) .bool v.2.2.1 (bA m)=true
  ·rw[aA hm,aA hm,aC];rfl
  ·rw[aB hm,aB hm,aC];rfl
theorem qo(X:MX w lo PS U ix m d k O L)(q0:Q0)(q1:Q1)(u:Ru)(hu:u∈w.1.1.2.2.2.1)(p:Int)(l:List In)(b:Bool)(z:Unit){fo:FM}{se:SM}{rs:List Rd}(h:MI w.1.1 PS U O L fo se rs)(hP:p∈PS)(hL:LI w.1.1 PS u l)
 (hq0:∀y:Pl,y∈U→y.2.1∈PS→l.length<u.2.2.1.length→y.1=(nth bG u.2.2.1 (l.length:Int)).2.2.1→∀fo se rs,MI w.1.1 PS U O L fo se rs→W (q0 (y,w,ix,d,k,b,m,z,fo,se,rs,())) (LP w PS U ix m d k O L b z y rs))
 (hq1:∀l',LI w.1.1 PS u l'→l'.length=l.length+1→∀fo se rs,MI w.1.1 PS U O L fo se rs→W (q1 (u,p,l',w,ix,d,k,b,m,z,fo,se,rs,())) (CQ w PS U ix m d k O L b z u p l' ((aW L w.1.1 m u p (u.2.2.1.length -l'.length) l').run O) rs)):
 W (fU q0 q1 u p l w ix d k b m z fo se rs) (CQ w PS U ix m d k O L b z u p l ((aW L w.1.1 m u p (u.2.2.1.length -l.length) l).run O) rs):=by
 have hB:=hB
 have hR:RK (cR w.1.1 u):=X.wx.cg.tg.rules u hu
 by_cases hl:l.length=u.2.2.1.length
 ·have hdl:decide ((l.length:Int)=(u.2.2.1.length:Int))=true:=bR (by omega)
  rw[show u.2.2.1.length -l.length=0 by omega]
  refine⟨(gp w.1.1 u l,u,p,w,ix,d,k,b,m,z,fo,se,l,rs),?_,fo,se,rfl,h,fun _=>rfl,fun _=>⟨hL,hl⟩⟩
  unfold fU
  rw[aA hdl,nw X.wx.cg.sw.nb (X.wx.cg.sw.rl u hu).2.1 hR hL hl];rfl
 ·have hll:=hL.len
  have hlt:l.length<u.2.2.1.length:=by omega
  have hn3:u.2.2.1.length≤3:=hR.n3
  have hF:FO (cR w.1.1 u) l.length:=hR.fo l.length hlt
  have hs0:0≤(nth bG u.2.2.1 (l.length:Int)).2.2.1:=hF.s0
  have hs1:(nth bG u.2.2.1 (l.length:Int)).2.2.1<(w.1.1.2.2.1.length:Int):=hF.s1
  have hpush:∀x:In,FV w.1.1 PS x (nth bG u.2.2.1 (l.length:Int)).2.2.1→LI w.1.1 PS u (l++[x]):=fun x hx=>hL.push hlt hx
  have ho:bQ u p l∈PS∧((nth bG u.2.2.1 (l.length:Int)).2.2.2.1.2.2.1= -1∨(0≤(nth bG u.2.2.1 (l.length:Int)).2.2.2.1.2.2.1∧(nth bG u.2.2.1 (l.length:Int)).2.2.2.1.2.2.1<(l.length:Int)∧0≤(nth bG u.2.2.1 (l.length:Int)).2.2.2.1.2.2.2.1∧(nth bG u.2.2.1 (l.length:Int)).2.2.2.1.2.2.2.1<((nth bS l (nth bG u.2.2.1 (l.length:Int)).2.2.2.1.2.2.1).2.2.2.1.length:Int))):=by
   unfold bQ
   by_cases apF:(nth bG u.2.2.1 (l.length:Int)).2.2.2.1.2.2.1= -1
   ·rw[aA apF];exact⟨hP,Or.inl apF⟩
   ·rcases hF.of with h1|h1
    ·exact absurd h1 apF
    ·obtain⟨a1,a2,a3,a4,a5⟩:=gI hL (fQ _) h1
     rw[aB apF]
     exact⟨a5,Or.inr ⟨a1,a2,a3,a4⟩⟩
  rw[qn q0 q1 u p l b z fo se rs hlt ho.2]
  obtain⟨ho,_⟩:=ho
  rw[show u.2.2.1.length -l.length=(u.2.2.1.length -(l.length+1))+1 by omega]
  unfold aW
  have hn4:bC m (nth bG u.2.2.1 (l.length:Int)).2.2.1≤4:=by unfold bC;split<;>omega
  have hch:∀x:In,LI w.1.1 PS u (l++[x])→∀fo se rs,MI w.1.1 PS U O L fo se rs→W (q1 (u,p,l++[x],w,ix,d,k,b,m,z,fo,se,rs,())) (CQ w PS U ix m d k O L b z u p (l++[x]) ((aW L w.1.1 m u p (u.2.2.1.length -(l.length+1)) (l++[x])).run O) rs):=fun x hx fo se rs hI=>by
   have:=hq1 (l++[x]) hx (by rw[cz,bD]) fo se rs hI
   rw[cz,bD] at this
   exact this
  generalize aW L w.1.1 m u p (u.2.2.1.length -(l.length+1))=ch at hch ⊢
  generalize bC m (nth bG u.2.2.1 (l.length:Int)).2.2.1=n at hn4 ⊢
  generalize bQ u p l=o at ho ⊢
  generalize nth bG u.2.2.1 (l.length:Int)=v at hs0 hs1 hpush hq0 ⊢
  let Y:Nat→(Bool×List In)×List Rd:=fun c=>(dg L ch v.2.2.1 o l (n -c) c).run O
  show W _ (CQ w PS U ix m d k O L b z u p l (Y 0) rs)
  refine aZ.2 (W.ct (W.mono (gu (L:=im q0 q1) rfl (fun c(s:FM×SM×List Rd)(r:dN _ _)=>CT (fun r=>(Y c).1=(false,l)∧∃fo' se',r=(u,p,w,ix,d,k,b,m,z,fo',se',l,aT s.2.2 (Y c).2)∧MI w.1.1 PS U O L fo' se' (aT s.2.2 (Y c).2)) (fun r=>(Y c).1.1=true∧∃fo' se',r=(true,u,p,w,ix,d,k,b,m,z,fo',se',(Y c).1.2,aT s.2.2 (Y c).2)∧MI w.1.1 PS U O L fo' se' (aT s.2.2 (Y c).2)∧LI w.1.1 PS u (Y c).1.2∧(Y c).1.2.length=u.2.2.1.length) r) n (fun c(s:FM×SM×List Rd)=>(o,(n:Int),(c:Int),u,p,w,ix,d,k,b,m,z,s.1,s.2.1,v,l,s.2.2)) (fun _ s=>MI w.1.1 PS U O L s.1 s.2.1 s.2.2) ?step ?stop (Int.toNat (n:Int)+1) 0 (fo,se,rs) (by omega) (by omega) h) fun r hr=>hr) (fun r hr=>?_) fun r hr=>?_)
  case step=>
   rintro rec c ⟨fo,se,rs⟩ hc hI kk
   dsimp only at hI ⊢
   have hw2:=fF c (by omega)
   have hcn:decide ((c:Int)<(n:Int))=true:=bR (by omega)
   have hl48:∀x:In,(l.length+List.length [x])*48≤aF:=fun x=>by rw[bD];omega
   have eY:Y c=((L (v.2.2.1,(o,((c:Int),())))).bind fun x=>if x.2.2.2.1=true then(ch (l++[x.1])).bind fun y=>if y.1=true then .ret y else dg L ch v.2.2.1 o l (n -(c+1)) (c+1) else dg L ch v.2.2.1 o l (n -(c+1)) (c+1):Qy (Bool×List In)).run O:=by
    show(dg _ _ _ _ _ _ _).run O=_
    rw[show n -c=(n -(c+1))+1 by omega]
    rfl
   rw[eY,Qy.run_bind,aA hcn]
   obtain⟨r,er,fo',se',rfl,h',hx,_⟩:=hq0 (v.2.2.1,(o,((c:Int),()))) (X.wx.pl _ _ _ hs0 hs1 ho (cu c) (by omega)) ho hlt rfl fo se rs hI
   rw[er,aD]
   dsimp only at h' hx ⊢
   generalize (L (v.2.2.1,(o,((c:Int),())))).run O=x at h' hx ⊢
   obtain⟨x,t⟩:=x
   dsimp only at h' hx ⊢
   cases hk:x.2.2.2.1 with
   |
    false=>
    rw[aB (by decide),aB (by decide),hw2,bT]
    exact kk (fo',se',aT rs t) h'
   |
    true=>
    rw[aA rfl,aA (hl48 x.1),aA rfl,Qy.run_bind]
    obtain⟨r,er2,fo2,se2,rfl,h2,y0,y1⟩:=hch x.1 (hpush x.1 (hx hk)) fo' se' (aT rs t) h'
    rw[er2,aD]
    generalize (ch (l++[x.1])).run O=y at h2 y0 y1 ⊢
    obtain⟨⟨y,l2⟩,t2⟩:=y
    dsimp only at h2 y0 y1 ⊢
    cases y with
    |
     true=>
     rw[aA rfl,aA rfl]
     unfold Qy.run
     rw[cw]
     rw[bT]
     exact⟨_,rfl,rfl,fo2,se2,rfl,h2,y1 rfl⟩
    |
     false=>
     have e:=y0 rfl
     subst e
     have e1:aQ (((l++[x.1]).length:Int) -(1:Int))=(l.length:Int):=by
      rw[cz,bD]
      rw[dR (by omega) (by omega)]
      omega
     have e3:(l.length:Int)≤((l++[x.1]).length:Int):=by rw[cz,bD];omega
     have ff:¬false=true:=by decide
     rw[aB ff,e1,dK _,aA e3,dV,Nat.sub_zero,List.take_left,hw2,aB ff,bT,bT]
     exact kk (fo2,se2,aT (aT rs t) t2) h2
  case stop=>
   rintro rec ⟨fo,se,rs⟩ hI
   dsimp only at hI ⊢
   rw[eF (by omega)]
   have e:Y n=((false,l),[]):=by
    show(dg _ _ _ _ _ (n -n) _).run O=_
    rw[Nat.sub_self];rfl
   rw[e]
   exact⟨_,rfl,rfl,fo,se,rfl,hI⟩
  ·obtain⟨e0,fo',se',rfl,h'⟩:=hr
   exact⟨_,rfl,fo',se',by rw[e0],h',fun _=>by rw[e0],fun h=>by rw[e0] at h;cases h⟩
  ·obtain⟨e0,fo',se',rfl,h',h2⟩:=hr
   exact⟨fo',se',by rw[e0],h',(fun h=>by rw[e0] at h;cases h),fun _=>h2⟩
theorem zU(X:MX w lo PS U ix m d k O L)(b:Bool)(z:Unit):∀n:Nat,
 (∀(p:Pl) fo se rs,MI w.1.1 PS U O L fo se rs→p∈U→p.2.1∈PS→5*(lo.idxOf p.1+1)≤n→W ((du n).1 (p,w,ix,d,k,b,m,z,fo,se,rs,())) (LP w PS U ix m d k O L b z p rs))∧
 (∀u∈w.1.1.2.2.2.1,∀(q:Int) l fo se rs,MI w.1.1 PS U O L fo se rs→q∈PS→LI w.1.1 PS u l→5*lo.idxOf u.2.1+(u.2.2.1.length -l.length)+1≤n→W ((du n).2 (u,q,l,w,ix,d,k,b,m,z,fo,se,rs,())) (CQ w PS U ix m d k O L b z u q l ((aW L w.1.1 m u q (u.2.2.1.length -l.length) l).run O) rs)):=by
 intro n
 induction n with
 |zero=>exact⟨fun p fo se rs _ _ _ h=>by omega,fun u _ q l fo se rs _ _ _ h=>by omega⟩
 |
  succ n ih=>
  refine⟨fun p fo se rs h hU hP hn=>?_,fun u hu q l fo se rs h hP hL hn=>?_⟩
  ·exact rW X.my (du n).1 (du n).2 p (X.fix p) b z h hU hP fun hm=>qm X _ _ p b z h hP hm fun u hu hup fo se rs h=>ih.2 u hu p.2.1 [] fo se rs h hP (LI.nil _ _ _) (by
    have hn3:u.2.2.1.length≤3:=(X.wx.cg.tg.rules u hu).n3
    rw[hup,fO]
    omega)
  ·exact qo X (du n).1 (du n).2 u hu q l b z h hP hL (fun y hy hyP hlt hy1 fo se rs h=>ih.1 y fo se rs h hy hyP (by
    have hpre:=X.wx.cg.rk.pre u hu _ (bE (t:=bG) (l:=u.2.2.1) (cu l.length) (show(l.length:Int)<(u.2.2.1.length:Int) by omega))
    rw[←hy1] at hpre
    omega)) fun l' hL' hl' fo se rs h=>ih.2 u hu q l' fo se rs h hP hL' (by
    have:=hL'.len
    omega)
theorem ny(X:MX w lo PS U ix m d k O L)(b:Bool)(z:Unit)(p:Pl){fo:FM}{se:SM}{rs:List Rd}(h:MI w.1.1 PS U O L fo se rs)(hU:p∈U)(hP:p.2.1∈PS):W (iD p w ix d k b m z fo se rs) (LP w PS U ix m d k O L b z p rs):=by
 have hl:=X.wx.cg.rk.len
 have hm:=X.wx.cg.tg.many
 have hi:lo.idxOf p.1≤lo.length:=List.idxOf_le_length
 exact(zU X b z dA).1 p fo se rs h hU hP (by show _≤18446744073709551616;omega)
theorem nz(X:MY w PS U ix d k O)(b:Bool)(z:Unit)(p:Pl)(hf:L p=dt w.1.1 m L p)(hm:¬aO (.int .i64) .bool p.1 (bA m)=true){fo:FM}{se:SM}{rs:List Rd}(h:MI w.1.1 PS U O L fo se rs)(hU:p∈U)(hP:p.2.1∈PS):W (iD p w ix d k b m z fo se rs) (LP w PS U ix m d k O L b z p rs):=by
 have key:∀n,W ((du (n+1)).1 (p,w,ix,d,k,b,m,z,fo,se,rs,())) (LP w PS U ix m d k O L b z p rs):=fun n=>rW X (du n).1 (du n).2 p hf b z h hU hP fun h=>absurd h hm
 exact key 18446744073709551615
theorem nA(X:MY w PS U ix d k O)(b:Bool)(z:Unit)(p:Pl){fo:FM}{se:SM}{rs:List Rd}(h:MI w.1.1 PS U O L fo se rs)(hU:p∈U)(hP:p.2.1∈PS)(ho:W (iD p w ix d k b m z fo se rs) (LP w PS U ix m d k O L b z p rs)):W (cF p w ix d k b m z fo se rs) (LP w PS U ix m d k O L b z p rs):=by
 suffices hW:∃r,cF p w ix d k b m z fo se rs=some r by
  obtain⟨r,er⟩:=hW
  obtain⟨r',er',hr⟩:=ho
  rw[yR er] at er'
  cases er'
  exact⟨r,er,hr⟩
 have ho:=ho.imp fun r h=>h.1
 unfold cF
 cases hp:ep aR p fo with
 |true=>rw[aA rfl];exact ho
 |
  false=>
  rw[aB (by decide)]
  split
  ·rw[EA];exact ho
  ·obtain⟨M,y,x,n,se',rs',e1,e2,e3,hl,_⟩:=rU X.wy p d k b m z h.fi hp hU hP
   have e4:lb n=some n:=rfl
   rw[e1,aD]
   dsimp only
   rw[e2,aD]
   dsimp only
   rw[e4,aD,e3,aD]
   dsimp only
   rw[aA hl]
   exact⟨_,rfl⟩
abbrev Ky:=hJ
abbrev Fa:=iL
abbrev cG(a p i:Int)(c:Nat):Ky:=(a,(p,(aQ ((aQ ((16:Int)*i))+(c:Int)),())))
abbrev dD(a p i d:Int)(c:Nat):Rd:=(cG a p i c,(d,(aQ (d+(1:Int)),())))
def sg(d:Int)(r:Rd):Rd:=(r.1,(d,(aQ (d+(1:Int)),())))
def kH(s:bF)(a:Int):Bool:=(KR s a).getD false
def iu(p i:Int):Bool:=(wa p i).getD false
def kI(s:bF)(a c x:Int):Bool:=(Ej s a c x).getD false
def zI:In:=(0,(0,(0,([],()))))
def d8(s:bF)(V:Ky→Int×Bool)(a p i d:Int):Nat→Nat→List Int→List Rd→An
 |0,_,t,rs=>(true,(a,(p,(i,(t,())))),rs)
 |n+1,c,t,rs=>if((V (cG a p i c)).2&&kI s a c (V (cG a p i c)).1)=true then d8 s V a p i d n (c+1) (t++[(V (cG a p i c)).1]) (rs++[dD a p i d c]) else(false,zI,rs++[dD a p i d c])
def eI(s:bF)(V:Ky→Int×Bool)(a p i d:Int):An:=
 if kH s a=true∧iu p i=true∧0≤d∧d<1024 then d8 s V a p i d ((aP s a).length -1) 1 [p] [] else(false,zI,[])
theorem gS{s:bF}{V:Ky→Int×Bool}{a p i d:Int}:∀(n c:Nat)(t:Zd)(rs:List Rd),(∀r∈rs,r∈(d8 s V a p i d n c t rs).2.2)∧∀r∈(d8 s V a p i d n c t rs).2.2,r∈rs∨∃e,c≤e∧e<c+n∧r=dD a p i d e
 |0,_,_,_=>⟨fun _ h=>h,fun _ h=>Or.inl h⟩
 |
  n+1,c,t,rs=>by
  unfold d8
  have hl:∀r∈rs++[dD a p i d c],r∈rs∨∃e,c≤e∧e<c+(n+1)∧r=dD a p i d e:=fun r hr=>(List.mem_append.1 hr).imp id fun h=>⟨c,cV _,by omega,List.mem_singleton.1 h⟩
  split
  ·obtain⟨h1,h2⟩:=gS (s:=s) (V:=V) (a:=a) (p:=p) (i:=i) (d:=d) n (c+1) (t++[(V (cG a p i c)).1]) (rs++[dD a p i d c])
   exact⟨fun r hr=>h1 r (iF _ hr),fun r hr=>(h2 r hr).elim (hl r) fun⟨e,e1,e2,e3⟩=>Or.inr ⟨e,by omega,by omega,e3⟩⟩
  ·exact⟨fun r hr=>iF _ hr,hl⟩
theorem jL{s:bF}{V V':Ky→Int×Bool}{a p i d d':Int}:∀(n c:Nat)(t:Zd)(rs:List Rd),(∀r∈(d8 s V a p i d n c t rs).2.2,V' r.1=V r.1)→d8 s V' a p i d' n c t (rs.map (sg d'))=((d8 s V a p i d n c t rs).1,(d8 s V a p i d n c t rs).2.1,(d8 s V a p i d n c t rs).2.2.map (sg d'))
 |0,_,_,_,_=>rfl
 |
  n+1,c,t,rs,h=>by
  have hm:dD a p i d c∈(d8 s V a p i d (n+1) c t rs).2.2:=by
   unfold d8
   split
   ·exact(gS n (c+1) _ _).1 _ (iX _ (List.mem_singleton.2 rfl))
   ·exact iX _ (List.mem_singleton.2 rfl)
  have e:V' (cG a p i c)=V (cG a p i c):=h _ hm
  have em:rs.map (sg d')++[dD a p i d' c]=(rs++[dD a p i d c]).map (sg d'):=by rw[qN];rfl
  unfold d8 at h ⊢
  rw[e,em]
  split
  ·rename_i hc
   rw[aA hc] at h
   exact jL n (c+1) _ _ h
  ·rfl
theorem mw{s:bF}{V:Ky→Int×Bool}{a p i d:Int}{r:Rd}(h:r∈(eI s V a p i d).2.2):(∃c,c<(aP s a).length∧r=dD a p i d c)∧kH s a=true∧iu p i=true∧0≤d∧d<1024:=by
 unfold eI at h
 split at h
 ·rename_i hc
  refine⟨?_,hc⟩
  rcases(gS _ _ _ _).2 r h with h|⟨e,e1,e2,e3⟩
  ·cases h
  ·exact⟨e,by omega,e3⟩
 ·cases h
theorem jd{s:bF}{V V':Ky→Int×Bool}{a p i d d':Int}(hd:0≤d∧d<1024↔0≤d'∧d'<1024)(h:∀r∈(eI s V a p i d).2.2,V' r.1=V r.1):eI s V' a p i d'=((eI s V a p i d).1,(eI s V a p i d).2.1,(eI s V a p i d).2.2.map (sg d')):=by
 unfold eI at h ⊢
 by_cases hc:kH s a=true∧iu p i=true∧0≤d∧d<1024
 ·rw[aA hc] at h ⊢
  rw[aA ⟨hc.1,hc.2.1,hd.1 hc.2.2⟩]
  exact jL _ _ _ [] h
 ·rw[aB hc,aB fun hc'=>hc ⟨hc'.1,hc'.2.1,hd.2 hc'.2.2⟩]
  rfl
theorem mz{s:bF}{V:Ky→Int×Bool}{a p i d:Int}:(eI s V a p i d).2.2.map (sg d)=(eI s V a p i d).2.2:=by
 have h:=jd (s:=s) (V:=V) (V':=V) (a:=a) (p:=p) (i:=i) Iff.rfl (d:=d) fun _ _=>rfl
 exact(congrArg (fun x:An=>x.2.2) h).symm
theorem lW(v:aV)(s:bF)(hN:NB s)(hl:v.2.1.length≤aF)(c:Nat)(a p i d k:Int)(rs:List Rd)(hr:(rs.length+1)*40≤aF):
 jq (c:Int) a p i d v k s rs=some ((fk v.2.1 (cG a p i c) d k).1,((fk v.2.1 (cG a p i c) d k).2&&kI s a c (fk v.2.1 (cG a p i c) d k).1),a,p,i,d,v,k,s,rs++[dD a p i d c]):=by
 have e:rX v.2.1 (a,(p,(aQ ((aQ ((16:Int)*i))+(c:Int)),()))) d k=some (fk v.2.1 (cG a p i c) d k):=aA hl
 unfold jq Pb
 rw[aD,aA (by rw[bD];exact hr),e,aD]
 generalize fk v.2.1 (cG a p i c) d k=r
 obtain⟨x,b⟩:=r
 dsimp only
 cases b with
 |false=>rfl
 |
  true=>
  obtain⟨q,hq⟩:=jQ s hN a (c:Int) x
  unfold kI
  rw[aA rfl,hq]
  rfl
theorem lr(p i:Int):wa p i=some (iu p i)∧(iu p i=true→0≤i∧i<4):=by
 have hs:∃z,wa p i=some z∧(z=true→0≤i∧i<4):=by
  unfold wa
  have no:∀y:Zm,y=some false→∃z,y=some z∧(z=true→0≤i∧i<4):=fun y hy=>⟨false,hy,fun h=>(by cases h)⟩
  by_cases i0:0≤i
  ·by_cases i1:i<4
   ·have yes:∀y:Zm,(∃z,y=some z)→∃z,y=some z∧(z=true→0≤i∧i<4):=fun y ⟨z,hz⟩=>⟨z,hz,fun _=>⟨i0,i1⟩⟩
    apply yes
    refine gK ?_ fun v=>⟨v,rfl⟩
    repeat' (first|exact⟨_,rfl⟩|split)
   ·rw[bR i0,cD i1]
    apply no
    split
    ·split<;>rfl
    ·rfl
  ·rw[cD i0]
   apply no
   split
   ·split<;>rfl
   ·rfl
 obtain⟨z,e,h⟩:=hs
 have e2:iu p i=z:=by unfold iu;rw[e];rfl
 rw[e2]
 exact⟨e,h⟩
theorem mQ(v:aV)(hN:NB v.1.1)(hR:v.1.1.2.2.2.1.length≤aF)(hF:∀a,0≤a→a<(v.1.1.2.2.1.length:Int)→(aP v.1.1 a).length≤1000)(hl:v.2.1.length≤aF)(a p i d k:Int):
 mU v a p i d k=some (eI v.1.1 (fun q=>fk v.2.1 q d k) a p i d):=by
 have hB:=hB
 suffices hW:W (mU v a p i d k) fun r=>r=eI v.1.1 (fun q=>fk v.2.1 q d k) a p i d by
  obtain⟨r,e,rfl⟩:=hW
  exact e
 obtain⟨b,e,hb⟩:=dP v.1.1 hR a
 have eb:kH v.1.1 a=b:=by unfold kH;rw[e];rfl
 obtain⟨hz,_⟩:=lr p i
 unfold mU eI
 rw[e,aD,eb]
 cases b with
 |false=>exact⟨_,rfl,(aB fun h=>(by cases h.1)).symm⟩
 |
  true=>
  obtain⟨a0,a1,a2⟩:=hb rfl
  rw[aB (by decide),hz,aD]
  cases iu p i with
  |false=>exact⟨_,rfl,(aB fun h=>(by cases h.2.1)).symm⟩
  |
   true=>
   rw[aB (by decide)]
   by_cases d0:d<0
   ·rw[cq d0];exact⟨_,rfl,(aB fun h=>by omega).symm⟩
   ·rw[aB (show¬decide (d<(0:Int))=true by simpa using d0)]
    by_cases d1:(1024:Int)≤d
    ·rw[bR d1];exact⟨_,rfl,(aB fun h=>by omega).symm⟩
    ·rw[cD d1,aD,aB (by decide),aC,aA ⟨rfl,rfl,by omega,by omega⟩]
     dsimp only
     have hFa:=hF a a0 a1
     have e:(nth aU v.1.1.2.2.1 a).2.2.2.2.1=aP v.1.1 a:=rfl
     let Y:Nat→List Int→List Rd→An:=fun c t s=>d8 v.1.1 (fun q=>fk v.2.1 q d k) a p i d ((aP v.1.1 a).length -c) c t s
     refine aZ.2 (W.ct (W.mono (gu (L:=pK) rfl (fun c(u:List Int×List Rd)(r:dN _ _)=>CT (fun r=>∃t s,r=(a,p,i,(0:Int),(0:Int),(0:Int),t,s)∧Y c u.1 u.2=(true,(a,(p,(i,(t,())))),s)) (fun r=>r=Y c u.1 u.2) r) (aP v.1.1 a).length (fun c(u:List Int×List Rd)=>((c:Int),v,a,p,i,d,k,(0:Int),(0:Int),(0:Int),v.1.1,u.1,u.2)) (fun c u=>u.1.length≤c∧u.2.length≤c) ?step ?stop dA 1 ([p],[]) (by show _<18446744073709551616;omega) (by omega) ⟨cV _,cX _⟩) fun r hr=>hr) (fun r hr=>?_) fun r hr=>hr)
     case step=>
      rintro rec c ⟨t,s⟩ hc ⟨ht,hs⟩ kk
      dsimp only at ht hs ⊢
      have hw2:=fF c (by omega)
      rw[e,aA a0,aA a1,cq (by omega),lW v v.1.1 hN hl c a p i d k s (by omega),aD]
      have eY:Y c t s=if((fk v.2.1 (cG a p i c) d k).2&&kI v.1.1 a c (fk v.2.1 (cG a p i c) d k).1)=true then Y (c+1) (t++[(fk v.2.1 (cG a p i c) d k).1]) (s++[dD a p i d c]) else(false,zI,s++[dD a p i d c]):=by
       show d8 _ _ _ _ _ _ _ _ _ _=_
       rw[show(aP v.1.1 a).length -c=((aP v.1.1 a).length -(c+1))+1 by omega]
       rfl
      rw[eY]
      dsimp only
      cases(fk v.2.1 (cG a p i c) d k).2&&kI v.1.1 a c (fk v.2.1 (cG a p i c) d k).1 with
      |false=>exact⟨_,rfl,rfl⟩
      |
       true=>
       rw[aB (by decide),aA rfl,aA (show(t.length+List.length [_])*8≤aF by rw[bD];omega),hw2]
       exact kk (_,_) ⟨by rw[cz,bD];omega,by rw[cz,bD];omega⟩
     case stop=>
      rintro rec ⟨t,s⟩ _
      dsimp only
      rw[e,aA a0,aA a1,eF (by omega)]
      refine⟨_,rfl,t,s,rfl,?_⟩
      show d8 _ _ _ _ _ _ (_ -_) _ _ _=_
      rw[Nat.sub_self]
      rfl
     ·obtain⟨t,s,rfl,h⟩:=hr
      exact⟨_,rfl,h.symm⟩
theorem jM{β:Type}{g:Nat→List β}:∀n:Nat,(∀c<n,g c= [])→(List.range n).flatMap g= []
 |0,_=>rfl
 |
  n+1,h=>by
  rw[List.range_succ,List.flatMap_append,jM n fun c hc=>h c (by omega),List.flatMap_cons,List.flatMap_nil,h n (by omega)]
  rfl
theorem jN{β:Type}{g:Nat→List β}{c:Nat}:∀n:Nat,c<n→(∀x<n,x≠c→g x= [])→(List.range n).flatMap g=g c
 |0,h,_=>by omega
 |
  n+1,h,hx=>by
  rw[List.range_succ,List.flatMap_append,List.flatMap_cons,List.flatMap_nil,cw]
  by_cases e:c=n
  ·subst e
   rw[jM _ fun x hx'=>hx x (by omega) (by omega),jW]
  ·rw[jN n (by omega) fun x hx'=>hx x (by omega),hx n (by omega) (by omega),cw]
def fM(s:bF)(l:List Fa)(p:Pl):List Fa:=if 0≤p.1∧p.1<(s.2.2.1.length:Int) then(List.range (aP s p.1).length).flatMap fun(c:Nat)=>dr (cG p.1 p.2.1 p.2.2.1 c) l else[]
theorem lY(s:bF)(l:List Fa)(ix:List (Ky×List Fa))(h:∀key,aO aR (.slice 64 aN) key ix=dr key l)(p:Pl):cY s (some ix) p=fM s l p:=by
 have e:(fun(c:Nat)=>aO aR (.slice 64 aN) (p.1,(p.2.1,(aQ ((aQ ((16:Int)*p.2.2.1))+(c:Int)),()))) (bA (some ix)))=fun(c:Nat)=>dr (cG p.1 p.2.1 p.2.2.1 c) l:=funext fun c=>h _
 unfold cY fM
 rw[e]
theorem nB{a p i:Int}(i0:0≤i)(i1:i<4){c e:Nat}(hc:c≤1000)(he:e≤1000)(h:cG a p i c=cG a p i e):c=e:=by
 have h1:aQ ((aQ ((16:Int)*i))+(c:Int))=aQ ((aQ ((16:Int)*i))+(e:Int)):=congrArg (fun k:Ky=>k.2.2.1) h
 rw[dR (x:=(16:Int)*i) (by omega) (by omega),dR (by omega) (by omega),dR (by omega) (by omega)] at h1
 omega
theorem nC(s:bF)(l:List Fa){a p i:Int}(a0:0≤a)(a1:a<(s.2.2.1.length:Int))(hF:(aP s a).length≤1000)(i0:0≤i)(i1:i<4){c:Nat}(hc:c<(aP s a).length)(d k:Int):
 fk (fM s l (a,(p,(i,())))) (cG a p i c) d k=fk l (cG a p i c) d k:=by
 have e:(fM s l (a,(p,(i,())))).filter (cL (cG a p i c) k)=l.filter (cL (cG a p i c) k):=by
  have e1:fM s l (a,(p,(i,())))=(List.range (aP s a).length).flatMap fun(c:Nat)=>dr (cG a p i c) l:=aA ⟨a0,a1⟩
  rw[e1,List.filter_flatMap]
  rw[jN (c:=c) _ hc fun x hx hne=>?_]
  ·unfold dr
   rw[List.filter_filter]
   refine List.filter_congr fun x _=>?_
   unfold cL
   cases bM aR x.1 (cG a p i c)<;>simp
  ·unfold dr
   rw[List.filter_filter]
   refine List.filter_eq_nil_iff.2 fun y _=>?_
   intro h
   have h:=Bool.and_eq_true_iff.1 h
   have h1:=(Bool.and_eq_true_iff.1 h.1).1
   have q1:=(dw aR y.1 (cG a p i c)).1 h1
   have q2:=(dw aR y.1 (cG a p i x)).1 h.2
   exact hne (nB i0 i1 (by omega) (by omega) (q2.symm.trans q1))
 unfold fk iQ
 rw[e]
def Oa(w:aV)(d k:Int)(p:Pl):An:=eI w.1.1 (fun q=>fk w.2.1 q d k) p.1 p.2.1 p.2.2.1 d
theorem ND{w:aV}{PS:Zd}{U:List Pl}{ix:List (Ky×List Fa)}(hw:WY w PS U (some ix))(_hf:w.2.1.length≤1000)(h:∀key,aO aR (.slice 64 aN) key ix=dr key w.2.1)(d k:Int):MY w PS U (some ix) d k (Oa w d k):=by
 have hB:=hB
 refine⟨hw,fun p hP=>?_⟩
 have hpl:(cY w.1.1 (some ix) p).length≤aF:=by
  obtain⟨L,e,hL,_⟩:=jI hw p d k true none () [] [] []
  rw[lq hw p d k true none () [] [] []] at e
  have e:=fP e
  simp only[jb,true_and,nc] at e
  rw[e]
  omega
 rw[mQ (w.1,(cY w.1.1 (some ix) p,())) hw.sw.nb hw.sw.rules hw.fl hpl,lY w.1.1 w.2.1 ix h]
 unfold Oa
 rw[jd (d':=d) Iff.rfl (V:=fun q=>fk w.2.1 q d k) (V':=fun q=>fk (fM w.1.1 w.2.1 p) q d k) fun r hr=>?_,mz]
 obtain⟨⟨c,hc,rfl⟩,h1,h2,_⟩:=mw hr
 obtain⟨b,eb,hb⟩:=dP w.1.1 hw.sw.rules p.1
 have h1:b=true:=by unfold kH at h1;rw[eb] at h1;exact h1
 obtain⟨a0,a1,_⟩:=hb h1
 obtain⟨i0,i1⟩:=(lr _ _).2 h2
 exact nC w.1.1 w.2.1 (p:=p.2.1) a0 a1 (hw.fl _ a0 a1) i0 i1 hc d k
theorem WG{w:aV}{lo PS:Zd}{U:List Pl}{ix:List (Ky×List Fa)}(hw:WX w lo PS U (some ix))(hf:w.2.1.length≤1000)(h:∀key,aO aR (.slice 64 aN) key ix=dr key w.2.1)(m:DM)(d k:Int):MX w lo PS U (some ix) m d k (Oa w d k) (LQ w.1.1 m lo):=⟨hw,ND hw.y hf h d k,lG hw.cg.rk.pre m⟩
theorem Tt{w:aV}{α:Type}(x:Qy α)(d k k':Int)(h:∀r∈(x.run (Oa w d k)).2,r.2.1=d→0≤d→d<1024→r.2.2.1=aQ (d+(1:Int))→fk w.2.1 r.1 d k'=fk w.2.1 r.1 d k):x.run (Oa w d k')=x.run (Oa w d k):=by
 have:=Qy.two (O:=Oa w d k) (O':=Oa w d k') (G:=fun r=>r.2.1=d→0≤d→d<1024→r.2.2.1=aQ (d+(1:Int))→fk w.2.1 r.1 d k'=fk w.2.1 r.1 d k) (σ:=id) (fun p hG=>?_) x h
 ·rw[this,List.map_id]
 ·unfold Oa at hG ⊢
  rw[jd (d':=d) Iff.rfl (V:=fun q=>fk w.2.1 q d k) (V':=fun q=>fk w.2.1 q d k') fun r hr=>?_,mz,List.map_id]
  obtain⟨⟨c,_,rfl⟩,_,_,d0,d1⟩:=mw hr
  exact hG _ hr rfl d0 d1 rfl
variable{w:aV} {lo PS:Zd} {U:List Pl} {ix:Ix} {m:DM} {d k:Int} {O:Pl→An} {L:Pl→Qy Rs}
def eS(b:Bool)(m:DM)(a p d:Int):Bool:=b&&(aO (.int .i64) .bool a (bA m)&&(decide ((0:Int)≤p)&&(decide (p<(4096:Int))&&(decide ((0:Int)≤d)&&decide (d<(1024:Int))))))
theorem iO(a p:Int)(w:aV)(ix:Ix)(d k:Int)(b:Bool)(m:DM)(z:Unit)(fo:FM)(se:SM)(rs:List Rd):
 jO a p w ix d k b m z fo se rs=some (eS b m a p d,w,ix,d,k,b,m,z,fo,se,rs):=by
 unfold jO eS
 cases b<;>cases aO (.int .i64) .bool a (bA m)<;>cases decide ((0:Int)≤p)<;>cases decide (p<(4096:Int))<;>cases decide ((0:Int)≤d)<;>cases decide (d<(1024:Int))<;>rfl
def ja(b:Bool)(m:DM)(a p d i:Int):Bool:= !aO (.int .i64) .bool a (bA m)||(decide (i=0)&&eS b m a p d)
def Ri(O:Pl→An)(L:Pl→Qy Rs)(b:Bool)(m:DM)(a p d i:Int):List Rd:=if ja b m a p d i=true then((L (a,(p,(i,())))).run O).2 else[]
def Fv(O:Pl→An)(L:Pl→Qy Rs)(b:Bool)(m:DM)(a p d i:Int):Bool×In:=if ja b m a p d i=true then(((L (a,(p,(i,())))).run O).1.2.2.2.1,((L (a,(p,(i,())))).run O).1.1) else(false,zI)
theorem uf(a p i:Int)(b:Bool)(z:Unit){fo:FM}{se:SM}{rs:List Rd}(h:MI w.1.1 PS U O L fo se rs)
 (hk:ja b m a p d i=true→W (cF (a,(p,(i,()))) w ix d k b m z fo se rs) (LP w PS U ix m d k O L b z (a,(p,(i,()))) rs)):
 W (iZ a p i w ix d k b m z fo se rs) fun r=>∃fo' se',r=((Fv O L b m a p d i).1,w,ix,d,k,b,m,z,fo',se',(Fv O L b m a p d i).2,aT rs (Ri O L b m a p d i))∧MI w.1.1 PS U O L fo' se' (aT rs (Ri O L b m a p d i))∧((Fv O L b m a p d i).1=true→FV w.1.1 PS (Fv O L b m a p d i).2 a):=by
 unfold iZ Ri Fv
 have go:ja b m a p d i=true→W (Option.bind (cF (a,(p,(i,()))) w ix d k b m z fo se rs) fun⟨z,aa,ab,ac,ad,ae,af,ag,ah,y,ai⟩=>some (y.2.2.2.1,z,aa,ab,ac,ad,ae,af,ag,ah,y.1,ai)) fun r=>∃fo' se',r=(((L (a,(p,(i,())))).run O).1.2.2.2.1,w,ix,d,k,b,m,z,fo',se',((L (a,(p,(i,())))).run O).1.1,aT rs ((L (a,(p,(i,())))).run O).2)∧MI w.1.1 PS U O L fo' se' (aT rs ((L (a,(p,(i,())))).run O).2)∧(((L (a,(p,(i,())))).run O).1.2.2.2.1=true→FV w.1.1 PS ((L (a,(p,(i,())))).run O).1.1 a):=fun hl=>by
  refine kK.2 ((hk hl).mono fun r hr=>?_)
  obtain⟨fo',se',rfl,h',hx,_⟩:=hr
  exact⟨_,rfl,fo',se',rfl,h',hx⟩
 cases hm:aO (.int .i64) .bool a (bA m) with
 |
  false=>
  have hl:ja b m a p d i=true:=by unfold ja;rw[hm];rfl
  rw[aB (by decide),aC,aA hl,aA hl]
  exact go hl
 |
  true=>
  rw[aA rfl]
  by_cases hi:i=0
  ·rw[aB (show¬(!decide (i=(0:Int)))=true by simp[hi]),iO,aD]
   dsimp only
   have hl:ja b m a p d i=eS b m a p d:=by unfold ja;rw[hm,bR hi];rfl
   rw[hl] at go ⊢
   cases hb:eS b m a p d with
   |
    false=>
    rw[aA (show(!false)=true from rfl),aB (by decide),aB (by decide)]
    exact⟨_,rfl,fo,se,rfl,h,fun h=>(by cases h)⟩
   |
    true=>
    rw[aB (show¬(!true)=true by decide),aC,aA rfl,aA rfl]
    exact go hb
  ·have hl:ja b m a p d i=false:=by unfold ja;rw[hm,cD hi];rfl
   rw[aA (show(!decide (i=(0:Int)))=true by simp[hi]),hl,aB (by decide),aB (by decide)]
   exact⟨_,rfl,fo,se,rfl,h,fun h=>(by cases h)⟩
def Uu(w:aV)(p a:Int):List Pl:=((List.range 4).map fun(j:Nat)=>(a,(p,((j:Int),()))))++Uo w p (a,(p,((0:Int),())))
theorem sa(w:aV)(p a:Int){i:Int}(h0:0≤i)(h1:i<4):(a,(p,(i,())))∈Uu w p a:=
 iF _ (List.mem_map.2 ⟨i.toNat,List.mem_range.2 (by omega),by rw[show((i.toNat:Nat):Int)=i by omega]⟩)
theorem jr{w:aV}(p a:Int)(hT:FT w.1.1)(hf:w.2.1.length≤60):(Uu w p a).length≤2200:=by
 have:=nv p (a,(p,((0:Int),()))) hT hf
 unfold Uu
 rw[cz,gv,n9]
 omega
theorem WH{w:aV}{lo:Zd}(hc:CG w.1.1 lo)(hT:FT w.1.1)(hf:w.2.1.length≤60)(p a:Int){ix:Ix}(hix:IX (jJ w p) ix):WX w lo (jJ w p) (Uu w p a) ix:=
 {NC hc hT hf p (a,(p,((0:Int),()))) hix with
  pl:=fun b q i h0 h1 h2 h3 h4=>iX _ ((NC hc hT hf p (a,(p,((0:Int),()))) hix).pl b q i h0 h1 h2 h3 h4)
  len:=cW (jr p a hT hf) (by decide)}
theorem NF{w:aV}(hs:SA w.1.1)(hT:FT w.1.1)(hf:w.2.1.length≤60)(p a:Int){ix:Ix}(hix:IX (jJ w p) ix):WY w (jJ w p) (Uu w p a) ix:=
 ⟨hs.sw,cW (jr p a hT hf) (by decide),fun a a0 a1=>cW (hT.fields _ (bE (t:=aU) (l:=w.1.1.2.2.1) a0 a1)) (by decide),hix⟩
theorem NG{w:aV}(hf:w.2.1.length≤60)(p:Int){ix:List (Ky×List Fa)}(h:∀key,aO aR (.slice 64 aN) key ix=dr key w.2.1):IX (jJ w p) (some ix):=fun key=>by
 have e:aO aR (.slice 64 aN) key (bA (some ix))=dr key w.2.1:=h key
 have hle:(dr key w.2.1).length≤w.2.1.length:=n7 ..
 rw[e]
 exact⟨by omega,fun f hf=>dH _ (dH _ (iF _ (List.mem_map.2 ⟨f,(List.mem_filter.1 hf).1,rfl⟩)))⟩
abbrev dM(w:aV):DM:=some (gW w.1.1.2.2.2.1)
def LL(w:aV)(lo:Zd)(r:Int):Pl→Qy Rs:=if r=0 then LQ w.1.1 (dM w) lo else dt w.1.1 (dM w) fun _=>.ret zR
theorem iP{w:aV}(hs:SA w.1.1)(hT:FT w.1.1)(hf:w.2.1.length≤60){lo:Zd}{r:Int}(hcg:r=0→CG w.1.1 lo)(a0 a p:Int){ix:List (Ky×List Fa)}(h:∀key,aO aR (.slice 64 aN) key ix=dr key w.2.1)(d k:Int)(z:Unit){i:Int}(hU:(a,(p,(i,())))∈Uu w p a0)(hl:ja (decide (r=0)) (dM w) a p d i=true)(fo:FM)(se:SM)(rs:List Rd)(hI:MI w.1.1 (jJ w p) (Uu w p a0) (Oa w d k) (LL w lo r) fo se rs):
 W (cF (a,(p,(i,()))) w (some ix) d k (decide (r=0)) (dM w) z fo se rs) (LP w (jJ w p) (Uu w p a0) (some ix) (dM w) d k (Oa w d k) (LL w lo r) (decide (r=0)) z (a,(p,(i,()))) rs):=by
 have hP:p∈jJ w p:=dH _ (dx ..)
 have hix:=NG hf p h
 have Y:=ND (NF hs hT hf p a0 hix) (by omega) h d k
 refine nA Y _ z _ hI hU hP ?_
 by_cases hm:aO (.int .i64) .bool a (bA (dM w))=true
 ·have hr:r=0:=by
   refine Classical.byContradiction fun hr=>?_
   unfold ja eS at hl
   rw[hm,cD hr] at hl
   simp at hl
  have X:=WG (WH (hcg hr) hT hf p a0 hix) (by omega) h (dM w) d k
  have e:LL w lo r=LQ w.1.1 (dM w) lo:=aA hr
  rw[e] at hI ⊢
  exact ny X _ z _ hI hU hP
 ·refine nz Y _ z _ ?_ hm hI hU hP
  unfold LL
  by_cases hr:r=0
  ·rw[aA hr];exact lG (hcg hr).rk.pre _ _
  ·rw[aB hr]
   unfold dt
   rw[aB hm,aB hm]
theorem iR{ch:Ru→Qy (Bool×List In)}{bd:Ru→List In→In}{R:List Ru}{a:Int}{O:Pl→An}:∀n c,((cM ch bd R a n c).run O).1.2.2.2.1=true∨((cM ch bd R a n c).run O).1=zR
 |0,_=>Or.inr rfl
 |
  n+1,c=>by
  unfold cM
  split
  ·rw[Qy.run_bind]
   dsimp only
   split
   ·exact Or.inl rfl
   ·exact iR n (c+1)
  ·exact iR n (c+1)
theorem IT{w:aV}(hs:SA w.1.1)(hT:FT w.1.1)(hf:w.2.1.length≤60){lo:Zd}{r:Int}(er:vT w.1=some r)(hcg:r=0→CG w.1.1 lo)(a p d k:Int):
 f9 w a p d k=some (if eS (decide (r=0)) (dM w) a p d=true then(aT [] ((LL w lo r (a,(p,(0,())))).run (Oa w d k)).2,((LL w lo r (a,(p,(0,())))).run (Oa w d k)).1.2.2.2.1,((LL w lo r (a,(p,(0,())))).run (Oa w d k)).1.1) else([],false,zI))∧
 (eS (decide (r=0)) (dM w) a p d=true→((LL w lo r (a,(p,(0,())))).run (Oa w d k)).1.1.2.2.2.1.length≤1000)∧
 (eS (decide (r=0)) (dM w) a p d=true→(aT [] ((LL w lo r (a,(p,(0,())))).run (Oa w d k)).2).length≤2200000∧FG ((LL w lo r (a,(p,(0,())))).run (Oa w d k)).1):=by
 obtain⟨ix,e1,h1⟩:=lU w (by omega) hs.sw.rules d k (decide (r=(0:Int)))
 unfold f9 A2
 rw[er,aD,e1,aD]
 dsimp only
 rw[iO,aD]
 dsimp only
 cases hi:eS (decide (r=(0:Int))) (dM w) a p d with
 |false=>exact⟨rfl,fun h=>(by cases h),fun h=>(by cases h)⟩
 |
  true=>
  rw[aB (show¬(!true)=true by decide),aA rfl]
  obtain⟨x,ex,fo,se,rfl,hI,hx,hg⟩:=iP hs hT hf hcg a a p h1 d k () (i:=0) (sa w p a (by omega) (by omega)) (by unfold ja;rw[hi];cases aO (.int .i64) .bool a (bA (dM w))<;>rfl) [] [] [] (MI.nil _ _ _ _ _)
  rw[ex]
  have hU:=jr p a hT hf
  have hl:=hI.fi.len
  have hr:=hI.fi.rs
  refine⟨rfl,fun _=>?_,fun _=>⟨by omega,hg⟩⟩
  unfold eS at hi
  rw[bP,bP] at hi
  obtain⟨hr,hm,_⟩:=hi
  have hr:=bY hr
  obtain⟨u,hu,hua⟩:=nI a _ hm
  have hR:=(hcg hr).tg.rules u hu
  have iq:((LL w lo r (a,(p,(0,())))).run (Oa w d k)).1.2.2.2.1=true∨((LL w lo r (a,(p,(0,())))).run (Oa w d k)).1=zR:=by
   unfold LL
   rw[aA hr,lG (hcg hr).rk.pre]
   unfold dt
   rw[aA hm]
   exact iR _ _
  rcases iq with h|h
  ·rw[(hx h).1,←hua]
   exact cW (hT.fields _ (bE (t:=aU) (l:=w.1.1.2.2.1) hR.h0 hR.h1)) (by decide)
  ·rw[h];exact cX _
variable{w:aV} {lo PS:Zd} {U:List Pl} {ix:Ix} {m:DM} {d k:Int} {O:Pl→An} {L:Pl→Qy Rs}
def lu(L:Pl→Qy Rs)(b:Bool)(m:DM)(a p d i:Int):Qy (Bool×In):=if ja b m a p d i=true then(L (a,(p,(i,())))).bind fun r=>.ret (r.2.2.2.1,r.1) else .ret (false,zI)
theorem i5{α:Type}(a:α):(Qy.ret a).run O=(a,[]):=rfl
theorem lZ(b:Bool)(a p i:Int):(lu L b m a p d i).run O=(Fv O L b m a p d i,Ri O L b m a p d i):=by
 unfold lu Fv Ri
 by_cases h:ja b m a p d i=true
 ·rw[aA h,aA h,aA h,Qy.run_bind]
  rw[i5,cw]
 ·rw[aB h,aB h,aB h];rfl
def i6(L:Pl→Qy Rs)(b:Bool)(m:DM)(a p d:Int):Nat→Nat→Qy (List In)
 |0,_=>.ret []
 |n+1,c=>(lu L b m a p d (c:Int)).bind fun y=>(i6 L b m a p d n (c+1)).bind fun l=>.ret (if y.1=true then y.2::l else l)
def l0(L:Pl→Qy Rs)(b:Bool)(m:DM)(p d:Int):Nat→Nat→Qy (List In)
 |0,_=>.ret []
 |n+1,a=>(i6 L b m (a:Int) p d (bC m (a:Int)) 0).bind fun l1=>(l0 L b m p d n (a+1)).bind fun l2=>.ret (l1++l2)
theorem nD(b:Bool)(a p:Int)(n c:Nat):(i6 L b m a p d (n+1) c).run O=((if(Fv O L b m a p d (c:Int)).1=true then(Fv O L b m a p d (c:Int)).2::((i6 L b m a p d n (c+1)).run O).1 else((i6 L b m a p d n (c+1)).run O).1),Ri O L b m a p d (c:Int)++((i6 L b m a p d n (c+1)).run O).2):=by
 show((lu L b m a p d (c:Int)).bind _).run O=_
 rw[Qy.run_bind,lZ,Qy.run_bind]
 dsimp only
 rw[i5,cw]
theorem nE(b:Bool)(p:Int)(n a:Nat):(l0 L b m p d (n+1) a).run O=(((i6 L b m (a:Int) p d (bC m (a:Int)) 0).run O).1++((l0 L b m p d n (a+1)).run O).1,((i6 L b m (a:Int) p d (bC m (a:Int)) 0).run O).2++((l0 L b m p d n (a+1)).run O).2):=by
 show((i6 L b m (a:Int) p d (bC m (a:Int)) 0).bind _).run O=_
 rw[Qy.run_bind,Qy.run_bind]
 dsimp only
 rw[i5,cw]
theorem qp(hw:WY w PS U ix)(a p:Int)(a0:0≤a)(a1:a<(w.1.1.2.2.1.length:Int))(N:Int)(n:Nat)(hn:n≤4)(b:Bool)(z:Unit)
 (hk:∀i:Int,0≤i→i<4→ja b m a p d i=true→∀fo se rs,MI w.1.1 PS U O L fo se rs→W (cF (a,(p,(i,()))) w ix d k b m z fo se rs) (LP w PS U ix m d k O L b z (a,(p,(i,()))) rs)) {fo:FM} {se:SM} {rs:List Rd} (h:MI w.1.1 PS U O L fo se rs) (l:List In) (hl:l.length≤1000) (hv:∀x∈l,x.2.2.2.1.length≤1000):
 W (dG (Int.toNat (n:Int)+1) (p,a,N,a,(n:Int),(0:Int),w,ix,d,k,b,m,z,fo,se,l,rs)) (CT (fun r=>∃fo' se',r=(p,N,a,w,ix,d,k,b,m,z,fo',se',l++((i6 L b m a p d n 0).run O).1,aT rs ((i6 L b m a p d n 0).run O).2)∧MI w.1.1 PS U O L fo' se' (aT rs ((i6 L b m a p d n 0).run O).2)∧(l++((i6 L b m a p d n 0).run O).1).length≤l.length+4∧∀x∈l++((i6 L b m a p d n 0).run O).1,x.2.2.2.1.length≤1000) fun _=>False):=by
 have hB:=hB
 let Y:Nat→List In×List Rd:=fun c=>(i6 L b m a p d (n -c) c).run O
 refine W.mono (gu (L:=dG) rfl (fun c(s:FM×SM×List In×List Rd)(r:dN _ _)=>CT (fun r=>∃fo' se',r=(p,N,a,w,ix,d,k,b,m,z,fo',se',s.2.2.1++(Y c).1,aT s.2.2.2 (Y c).2)∧MI w.1.1 PS U O L fo' se' (aT s.2.2.2 (Y c).2)∧(s.2.2.1++(Y c).1).length≤s.2.2.1.length+(4 -c)∧∀x∈s.2.2.1++(Y c).1,x.2.2.2.1.length≤1000) (fun _=>False) r) n (fun c(s:FM×SM×List In×List Rd)=>(p,a,N,a,(n:Int),(c:Int),w,ix,d,k,b,m,z,s.1,s.2.1,s.2.2.1,s.2.2.2)) (fun c s=>MI w.1.1 PS U O L s.1 s.2.1 s.2.2.2∧s.2.2.1.length≤1000+c∧∀x∈s.2.2.1,x.2.2.2.1.length≤1000) ?step ?stop _ 0 (fo,se,l,rs) (by omega) (by omega) ⟨h,by omega,hv⟩) fun r hr=> ?fin
 case fin=>exact hr
 case step=>
  rintro rec c ⟨fo,se,l,rs⟩ hc ⟨hI,hl,hv⟩ kk
  dsimp only at hI hl hv ⊢
  have hw2:=fF c (by omega)
  have eY:Y c=((if(Fv O L b m a p d (c:Int)).1=true then(Fv O L b m a p d (c:Int)).2::(Y (c+1)).1 else(Y (c+1)).1),Ri O L b m a p d (c:Int)++(Y (c+1)).2):=by
   show(i6 _ _ _ _ _ _ _ _).run O=_
   rw[show n -c=(n -(c+1))+1 by omega,nD]
  rw[cq (by omega),eY]
  refine kK.2 ((uf a p (c:Int) b z hI fun hl=>hk _ (cu c) (by omega) hl fo se rs hI).mono fun r hr=>?_)
  obtain⟨fo',se',rfl,h',hx⟩:=hr
  dsimp only
  rw[bT,hw2]
  generalize Fv O L b m a p d (c:Int)=y at hx ⊢
  obtain⟨y,x⟩:=y
  dsimp only at hx ⊢
  cases y with
  |
   true=>
   have hxl:x.2.2.2.1.length≤1000:=by rw[(hx rfl).1];exact hw.fl a a0 a1
   rw[aA rfl,aA (show(l.length+List.length [x])*48≤aF by rw[bD];omega),aA rfl]
   refine(kk (fo',se',l++[x],aT rs (Ri O L b m a p d (c:Int))) ⟨h',by rw[cz,bD];omega,fun y hy=>?_⟩).ct (fun r hr=>?_) fun r hr=>hr
   ·rcases List.mem_append.1 hy with hy|hy
    ·exact hv y hy
    ·rw[List.mem_singleton.1 hy];exact hxl
   ·obtain⟨fo2,se2,rfl,g1,g2,g3⟩:=hr
    dsimp only at g1 g2 g3 ⊢
    have e:l++[x]++(Y (c+1)).1=l++x::(Y (c+1)).1:=by rw[iH];rfl
    rw[e] at g2 g3 ⊢
    simp only[cz,da,fO] at g2 ⊢
    exact⟨fo2,se2,rfl,g1,by omega,g3⟩
  |
   false=>
   rw[aB (by decide),aB (by decide)]
   refine(kk (fo',se',l,aT rs (Ri O L b m a p d (c:Int))) ⟨h',by dsimp only;omega,hv⟩).ct (fun r hr=>?_) fun r hr=>hr
   obtain⟨fo2,se2,rfl,g1,g2,g3⟩:=hr
   dsimp only at g1 g2 g3 ⊢
   exact⟨fo2,se2,rfl,g1,by omega,g3⟩
 case stop=>
  rintro rec ⟨fo,se,l,rs⟩ ⟨hI,hl,hv⟩
  dsimp only at hI hl hv ⊢
  rw[eF (by omega)]
  have e:Y n=([],[]):=by
   show(i6 _ _ _ _ _ _ (n -n) _).run O=_
   rw[Nat.sub_self];rfl
  rw[e]
  refine⟨_,rfl,fo,se,by rw[cw];rfl,hI,by rw[cw];omega,by rw[cw];exact hv⟩
theorem zV(hw:WY w PS U ix)(hn:w.1.1.2.2.1.length≤6)(p:Int)(b:Bool)(z:Unit)
 (hk:∀a i:Int,0≤a→a<(w.1.1.2.2.1.length:Int)→0≤i→i<4→ja b m a p d i=true→∀fo se rs,MI w.1.1 PS U O L fo se rs→W (cF (a,(p,(i,()))) w ix d k b m z fo se rs) (LP w PS U ix m d k O L b z (a,(p,(i,()))) rs)):
 W (i2 p w ix d k b m z [] [] []) fun r=>∃fo' se',r=(((l0 L b m p d w.1.1.2.2.1.length 0).run O).1,w,ix,d,k,b,m,z,fo',se',aT [] ((l0 L b m p d w.1.1.2.2.1.length 0).run O).2)∧MI w.1.1 PS U O L fo' se' (aT [] ((l0 L b m p d w.1.1.2.2.1.length 0).run O).2)∧((l0 L b m p d w.1.1.2.2.1.length 0).run O).1.length≤24∧∀x∈((l0 L b m p d w.1.1.2.2.1.length 0).run O).1,x.2.2.2.1.length≤1000:=by
 have hB:=hB
 let Y:Nat→List In×List Rd:=fun c=>(l0 L b m p d (w.1.1.2.2.1.length -c) c).run O
 unfold i2
 refine aZ.2 ((W.mono (gu (L:=iE) rfl (fun c(s:FM×SM×List In×List Rd)(r:dN _ _)=>CT (fun r=>∃fo' se',r=(w,ix,d,k,b,m,z,fo',se',s.2.2.1++(Y c).1,aT s.2.2.2 (Y c).2)∧MI w.1.1 PS U O L fo' se' (aT s.2.2.2 (Y c).2)∧(s.2.2.1++(Y c).1).length≤s.2.2.1.length+4*(6 -c)∧∀x∈s.2.2.1++(Y c).1,x.2.2.2.1.length≤1000) (fun _=>False) r) w.1.1.2.2.1.length (fun c(s:FM×SM×List In×List Rd)=>(p,(w.1.1.2.2.1.length:Int),(c:Int),w,ix,d,k,b,m,z,s.1,s.2.1,s.2.2.1,s.2.2.2)) (fun c s=>MI w.1.1 PS U O L s.1 s.2.1 s.2.2.2∧s.2.2.1.length≤4*c∧∀x∈s.2.2.1,x.2.2.2.1.length≤1000) ?step ?stop _ 0 ([],[],[],[]) (by omega) (by omega) ⟨MI.nil _ _ _ _ _,cV _,fun x hx=>(by cases hx)⟩) fun r hr=>hr).ct (fun r hr=>?_) fun r hr=>hr.elim)
 case step=>
  rintro rec c ⟨fo,se,l,rs⟩ hc ⟨hI,hl,hv⟩ kk
  dsimp only at hI hl hv ⊢
  have hw2:=fF c (by omega)
  have eY:Y c=(((i6 L b m (c:Int) p d (bC m (c:Int)) 0).run O).1++(Y (c+1)).1,((i6 L b m (c:Int) p d (bC m (c:Int)) 0).run O).2++(Y (c+1)).2):=by
   show(l0 _ _ _ _ _ _ _).run O=_
   rw[show w.1.1.2.2.1.length -c=(w.1.1.2.2.1.length -(c+1))+1 by omega,nE]
  have hn4:bC m (c:Int)≤4:=by unfold bC;split<;>omega
  have hit:=qp (L:=L) (O:=O) (m:=m) (d:=d) (k:=k) hw (c:Int) p (cu c) (by omega) (w.1.1.2.2.1.length:Int) (bC m (c:Int)) hn4 b z (fun i h0 h1=>hk (c:Int) i (cu c) (by omega) h0 h1) hI l (by omega) hv
  rw[cq (by omega),eY]
  refine aZ.2 ?_
  have e:aG (U:=Int×Int×Int×Int×Int×aV×Ix×Int×Int×Bool×DM×Unit×FM×SM×List In×List Rd) (if(aO (.int .i64) .bool (c:Int) (bA m))=true then(some (.aS (p,(c:Int),(1:Int),(w.1.1.2.2.1.length:Int),(c:Int),w,ix,d,k,b,m,z,fo,se,l,rs))) else(some (.aS (p,(c:Int),(4:Int),(w.1.1.2.2.1.length:Int),(c:Int),w,ix,d,k,b,m,z,fo,se,l,rs)))) (fun⟨b,c,a,d,e,f,g,h,i,j,k,l,m,n,o,p⟩=>dG (Int.toNat a+1) (b,c,d,e,a,(0:Int),f,g,h,i,j,k,l,m,n,o,p))=dG (Int.toNat ((bC m (c:Int):Nat):Int)+1) (p,(c:Int),(w.1.1.2.2.1.length:Int),(c:Int),((bC m (c:Int):Nat):Int),(0:Int),w,ix,d,k,b,m,z,fo,se,l,rs):=by
   unfold bC
   by_cases hm:aO (.int .i64) .bool (c:Int) (bA m)=true
   ·rw[aA hm,aA hm,aC];rfl
   ·rw[aB hm,aB hm,aC];rfl
  rw[e]
  refine hit.ct (fun r hr=>?_) fun r hr=>hr.elim
  obtain⟨fo',se',rfl,h',g1,g2⟩:=hr
  dsimp only
  rw[hw2]
  refine(kk (fo',se',_,_) ⟨h',by dsimp only;omega,g2⟩).ct (fun r hr=>?_) fun r hr=>hr
  obtain⟨fo2,se2,rfl,q1,q2,q3⟩:=hr
  dsimp only at q1 q2 q3 ⊢
  rw[iH] at q2 q3 ⊢
  rw[bT]
  exact⟨fo2,se2,rfl,q1,by omega,q3⟩
 case stop=>
  rintro rec ⟨fo,se,l,rs⟩ ⟨hI,hl,hv⟩
  dsimp only at hI hl hv ⊢
  rw[eF (by omega)]
  have e:Y w.1.1.2.2.1.length=([],[]):=by
   show(l0 _ _ _ _ _ (w.1.1.2.2.1.length -w.1.1.2.2.1.length) _).run O=_
   rw[Nat.sub_self];rfl
  rw[e]
  refine⟨_,rfl,fo,se,by rw[cw];rfl,hI,by rw[cw];omega,by rw[cw];exact hv⟩
 ·obtain⟨fo',se',rfl,h',g1,g2⟩:=hr
  exact⟨_,rfl,fo',se',rfl,h',g1,g2⟩
def AQ(w:aV)(lo:Zd)(r p d:Int):Qy (List In):=l0 (LL w lo r) (decide (r=0)) (dM w) p d w.1.1.2.2.1.length 0
theorem zW{w:aV}(hs:SA w.1.1)(hT:FT w.1.1)(hf:w.2.1.length≤60){lo:Zd}{r:Int}(er:vT w.1=some r)(hcg:r=0→CG w.1.1 lo)(p d k:Int):
 tn w p d k=some (((AQ w lo r p d).run (Oa w d k)).1,aT [] ((AQ w lo r p d).run (Oa w d k)).2)∧((AQ w lo r p d).run (Oa w d k)).1.length≤24∧(∀x∈((AQ w lo r p d).run (Oa w d k)).1,x.2.2.2.1.length≤1000)∧(aT [] ((AQ w lo r p d).run (Oa w d k)).2).length≤2200000:=by
 obtain⟨ix,e1,h1⟩:=lU w (by omega) hs.sw.rules d k (decide (r=(0:Int)))
 unfold tn
 rw[er,aD,e1,aD]
 dsimp only
 have hix:=NG hf p h1
 obtain⟨x,ex,fo,se,rfl,hI,g1,g2⟩:=zV (L:=LL w lo r) (O:=Oa w d k) (k:=k) (d:=d) (m:=dM w) (NF hs hT hf p 0 hix) hT.dh p (decide (r=0)) () fun a i a0 a1 i0 i1 hl fo se rs hI=>iP hs hT hf hcg 0 a p h1 d k () (iX _ (rV p _ a0 a1 (dH _ (dx ..)) i0 i1)) hl fo se rs hI
 have hU:=jr p 0 hT hf
 have hl:=hI.fi.len
 have hr:=hI.fi.rs
 unfold AQ
 rw[ex]
 exact⟨rfl,g1,g2,by omega⟩
theorem Md{w:aV}(hs:SA w.1.1)(hT:FT w.1.1)(hf:w.2.1.length≤60){lo:Zd}{r:Int}(er:vT w.1=some r)(hcg:r=0→CG w.1.1 lo)(a p d k:Int):
 ∃x:Rs,xL w a p d k=some (x.2.1,x.2.2.1,x.2.2.2.1)∧x=if eS (decide (r=0)) (dM w) a p d=true then((LL w lo r (a,(p,(0,())))).run (Oa w d k)).1 else zR:=by
 obtain⟨ix,e1,h1⟩:=lU w (by omega) hs.sw.rules d k (decide (r=(0:Int)))
 unfold xL A2
 rw[er,aD,e1,aD]
 dsimp only
 rw[iO,aD]
 dsimp only
 cases hi:eS (decide (r=(0:Int))) (dM w) a p d with
 |false=>exact⟨zR,rfl,rfl⟩
 |
  true=>
  rw[aB (show¬(!true)=true by decide),aA rfl]
  obtain⟨x,ex,fo,se,rfl,_,hx⟩:=iP hs hT hf hcg a a p h1 d k () (i:=0) (sa w p a (by omega) (by omega)) (by unfold ja;rw[hi];cases aO (.int .i64) .bool a (bA (dM w))<;>rfl) [] [] [] (MI.nil _ _ _ _ _)
  rw[ex]
  exact⟨_,rfl,rfl⟩
theorem kc(l:Zd)(hl:l.length≤1000000000):Bn l l=some true:=by
 have hB:=hB
 suffices hW:W (Bn l l) fun r=>r=true by
  obtain⟨r,e,rfl⟩:=hW
  exact e
 unfold Bn
 rw[aB (show¬(!decide ((l.length:Int)=(l.length:Int)))=true by simp)]
 refine aZ.2 (W.ct (bW (L:=oA) rfl (CT (fun _=>True) fun r=>r=true) l.length (fun c(_:Unit)=>(l,l,(c:Int))) (fun _ _=>True) ?step ?stop dA 0 () (by show _<18446744073709551616;omega) (by omega) trivial) (fun d _=>⟨_,rfl,rfl⟩) fun r hr=>hr)
 case step=>
  intro rec c _ hc _ kk
  dsimp only
  have hw2:=fF c (by omega)
  have hcc:(c:Int)<(l.length:Int):=by omega
  rw[cq hcc,dK c,aA hcc,dK c,aA hcc,aB (show¬(!decide (nth (.int .i64) l (c:Int)=nth (.int .i64) l (c:Int)))=true by simp),hw2]
  exact kk () trivial
 case stop=>
  intro rec _ _
  dsimp only
  rw[eF (by omega)]
  exact⟨_,rfl,trivial⟩
theorem fg(x:In)(h:x.2.2.2.1.length≤1000000000):oI x x=some true:=by
 unfold oI
 rw[bR rfl,aA rfl,bR rfl,aA rfl,bR rfl,aA rfl,kc _ h]
 rfl
theorem kf(l:List In)(hl:l.length≤1000000000)(hv:∀x∈l,x.2.2.2.1.length≤1000000000):A3 l l=some true:=by
 have hB:=hB
 suffices hW:W (A3 l l) fun r=>r=true by
  obtain⟨r,e,rfl⟩:=hW
  exact e
 unfold A3
 rw[aB (show¬(!decide ((l.length:Int)=(l.length:Int)))=true by simp)]
 refine aZ.2 (W.ct (bW (L:=pq) rfl (CT (fun _=>True) fun r=>r=true) l.length (fun c(_:Unit)=>(l,l,(c:Int))) (fun _ _=>True) ?step ?stop dA 0 () (by show _<18446744073709551616;omega) (by omega) trivial) (fun d _=>⟨_,rfl,rfl⟩) fun r hr=>hr)
 case step=>
  intro rec c _ hc _ kk
  dsimp only
  have hw2:=fF c (by omega)
  have hcc:(c:Int)<(l.length:Int):=by omega
  rw[cq hcc,dK c,aA hcc,dK c,aA hcc,fg _ (hv _ (bE (t:=bS) (l:=l) (cu c) hcc)),aD,aB (by decide),hw2]
  exact kk () trivial
 case stop=>
  intro rec _ _
  dsimp only
  rw[eF (by omega)]
  exact⟨_,rfl,trivial⟩
theorem je(l:List Rd)(hl:l.length≤1000000000):A4 l l=some true:=by
 have hB:=hB
 suffices hW:W (A4 l l) fun r=>r=true by
  obtain⟨r,e,rfl⟩:=hW
  exact e
 unfold A4
 rw[aB (show¬(!decide ((l.length:Int)=(l.length:Int)))=true by simp)]
 refine aZ.2 (W.ct (bW (L:=pt) rfl (CT (fun _=>True) fun r=>r=true) l.length (fun c(_:Unit)=>(l,l,(c:Int))) (fun _ _=>True) ?step ?stop dA 0 () (by show _<18446744073709551616;omega) (by omega) trivial) (fun d _=>⟨_,rfl,rfl⟩) fun r hr=>hr)
 case step=>
  intro rec c _ hc _ kk
  dsimp only
  have hw2:=fF c (by omega)
  have hcc:(c:Int)<(l.length:Int):=by omega
  rw[cq hcc,dK c,aA hcc,dK c,aA hcc,(dw bN _ _).2 rfl,aB (by decide),hw2]
  exact kk () trivial
 case stop=>
  intro rec _ _
  dsimp only
  rw[eF (by omega)]
  exact⟨_,rfl,trivial⟩
theorem zX{s:bF}(h:wf eR s):SA s where
 ss:=
  {kq:=h.1.2.1
   kM:=h.2.1.2.1
   dh:=h.2.2.1.2.1
   rules:=h.2.2.2.1.2.1
   fX:=h.2.2.2.2.1.2.1
   dX:=h.2.2.2.2.2.1.2.1
   fields:=fun x hx=>⟨(h.2.2.1.2.2 x hx).2.2.2.2.1.2.1,fun f hf=>((h.2.2.1.2.2 x hx).2.2.2.2.1.2.2 f hf).2.1.2.2.2.2.2.1.2.1⟩
   sN:=fun x hx=>⟨(h.2.2.1.2.2 x hx).2.2.2.2.2.1.2.1,fun d hd=>⟨((h.2.2.1.2.2 x hx).2.2.2.2.2.1.2.2 d hd).1.2.1,((h.2.2.1.2.2 x hx).2.2.2.2.2.1.2.2 d hd).2.2.1.2.1⟩⟩
   rl:=fun r hr=>⟨(h.2.2.2.1.2.2 r hr).2.2.1.2.1,(h.2.2.2.1.2.2 r hr).2.2.2.1.2.1,(h.2.2.2.1.2.2 r hr).2.2.2.2.1.2.1⟩
   mv:=fun c hc=>(h.2.2.2.2.1.2.2 c hc).2.2.2.2.1.2.1
   may:=fun p hp=>(h.2.2.2.2.2.1.2.2 p hp).2.1.2.1}
 bs:=
  {kq:=h.1.1
   kM:=h.2.1.1
   dh:=h.2.2.1.1
   rules:=h.2.2.2.1.1
   fX:=h.2.2.2.2.1.1
   dX:=h.2.2.2.2.2.1.1
   CX:=fun x hx=>⟨(h.2.2.1.2.2 x hx).2.2.2.2.1.1,(h.2.2.1.2.2 x hx).2.2.2.2.2.1.1,fun d hd=>((h.2.2.1.2.2 x hx).2.2.2.2.2.1.2.2 d hd).1.1⟩
   rl:=fun r hr=>⟨(h.2.2.2.1.2.2 r hr).2.2.1.1,(h.2.2.2.1.2.2 r hr).2.2.2.1.1,(h.2.2.2.1.2.2 r hr).2.2.2.2.1.1⟩
   cv:=fun c hc=>(h.2.2.2.2.1.2.2 c hc).2.2.2.2.1.1
   pu:=fun p hp=>(h.2.2.2.2.2.1.2.2 p hp).2.1.1}
 sw:=
  {kM:=h.2.1.2.1
   dh:=h.2.2.1.2.1
   rules:=h.2.2.2.1.2.1
   dX:=h.2.2.2.2.2.1.2.1
   nb:=fun x hx=>⟨(h.2.2.1.2.2 x hx).2.2.2.2.1.2.1,fun f hf=>((h.2.2.1.2.2 x hx).2.2.2.2.1.2.2 f hf).2.1.2.2.2.2.2.1.2.1⟩
   rl:=fun r hr=>⟨(h.2.2.2.1.2.2 r hr).2.2.1.2.1,(h.2.2.2.1.2.2 r hr).2.2.2.1.2.1,(h.2.2.2.1.2.2 r hr).2.2.2.2.1.1⟩
   may:=fun p hp=>(h.2.2.2.2.2.1.2.2 p hp).2.1.2.1}
theorem nF{w:aV}(hs:SA w.1.1):∃r lo,vT w.1=some r∧(r=0→CG w.1.1 lo):=by
 obtain⟨r,er,hc⟩:=uN w.1 hs
 by_cases h:r=0
 ·obtain⟨lo,h2⟩:=hc h
  exact⟨r,lo,er,fun _=>h2⟩
 ·exact⟨r,[],er,fun h'=>absurd h' h⟩
theorem B3{w:aV}(hf:w.2.1.length≤60){α:Type}(x:Qy α)(d b a:Int)(h:∀q∈aT [] (x.run (Oa w d b)).2,O5 w.2.1 b a q):x.run (Oa w d a)=x.run (Oa w d b):=
 Tt x d b a fun r hr g1 d0 d1 g2=>by
  have hw:aQ (d+(1:Int))=d+1:=dR (by omega) (by omega)
  have ed:((d.toNat:Nat):Int)=d:=by omega
  have:=(h r ((eP ..).2 (Or.inr hr))).at' (by omega) (dy:=d.toNat) (by omega) (by omega) (by rw[g2,hw];omega)
  rw[ed] at this
  exact this.symm
theorem Gm(w:aV)(hs:SA w.1.1)(s p d b a:Int):f6 w s p d b a=some true:=by
 unfold f6
 rw[qc,aD,aB (by decide)]
 obtain⟨r,e,hr⟩:=qk w hs.ss
 rw[e,aD]
 cases r with
 |false=>rfl
 |
  true=>
  obtain⟨hT,hf⟩:=hr rfl
  obtain⟨r0,lo,er,hcg⟩:=nF hs
  rw[aB (by decide)]
  have tail:(Option.bind (tn w p d b) fun⟨s,r⟩=>Option.bind (Ln w.2.1 r b a) fun y14=>if(!y14)=true then(some true) else(Option.bind (tn w p d a) fun⟨t,u⟩=>Option.bind (α:=Bool) (Option.bind (A3 s t) fun y16=>if y16=true then(Option.bind (A4 r u) fun y17=>some y17) else(some false)) fun v18=>some v18))=some true:=by
   obtain⟨a1,a2,a3,a4⟩:=zW hs hT hf er hcg p d b
   obtain⟨b1,_⟩:=zW hs hT hf er hcg p d a
   obtain⟨y,ey,hy⟩:=AR w.2.1 (by omega) (aT [] ((AQ w lo r0 p d).run (Oa w d b)).2) (by omega) b a
   rw[a1,aD]
   dsimp only
   rw[ey,aD]
   cases y with
   |false=>rfl
   |
    true=>
    rw[B3 hf _ d b a (hy rfl)] at b1
    rw[aB (by decide),b1,aD]
    dsimp only
    rw[kf _ (by omega) (fun x hx=>cW (a3 x hx) (by decide)),aD,aA rfl,je _ (by omega)]
    rfl
  obtain⟨o1,o2,o3⟩:=IT hs hT hf er hcg s p d b
  obtain⟨p1,_,_⟩:=IT hs hT hf er hcg s p d a
  obtain⟨x,x1,x2⟩:=Md hs hT hf er hcg s p d b
  obtain⟨z,z1,z2⟩:=Md hs hT hf er hcg s p d a
  rw[o1,aD]
  cases hi:eS (decide (r0=(0:Int))) (dM w) s p d with
  |
   false=>
   rw[hi,aB (by decide)] at p1 x2 z2
   subst x2
   subst z2
   rw[aB (by decide)]
   dsimp only
   obtain⟨y,ey,_⟩:=AR w.2.1 (by omega) [] (by rw[fO];omega) b a
   have e1:oI zI zI=some true:=fg zI (cX _)
   have e2:A4 [] []=some true:=je [] (cX _)
   have e3:A3 zR.2.2.1 zR.2.2.1=some true:=kf [] (cX _) fun x hx=>(by cases hx)
   rw[ey,aD]
   cases y with
   |false=>rw[aB (by decide),aC];exact tail
   |
    true=>
    rw[aA rfl,p1,aD]
    dsimp only
    rw[x1,aD]
    dsimp only
    rw[z1,aD]
    dsimp only
    rw[e1,aD,aB (by decide),e2,aD,aB (by decide),aB (by decide),aB (by simp),e3,aD,aB (by decide),aB (by decide)]
    rw[show(!(zR.2.2.2.1==false))=false from rfl,aD,aB (by decide),aC]
    exact tail
  |
   true=>
   rw[hi,aA rfl] at p1 x2 z2
   rw[aA rfl]
   dsimp only
   have o2:=o2 hi
   obtain⟨o3,o4,o5⟩:=o3 hi
   obtain⟨y,ey,hy⟩:=AR w.2.1 (by omega) (aT [] ((LL w lo r0 (s,(p,(0,())))).run (Oa w d b)).2) (by omega) b a
   rw[ey,aD]
   cases y with
   |false=>rw[aB (by decide),aC];exact tail
   |
    true=>
    have er:=B3 hf _ d b a (hy rfl)
    rw[er] at p1 z2
    subst x2
    subst z2
    generalize (LL w lo r0 (s,(p,(0,())))).run (Oa w d b)=R at*
    have e1:oI R.1.1 R.1.1=some true:=fg _ (by omega)
    have e2:A4 (aT [] R.2) (aT [] R.2)=some true:=je _ (by omega)
    have e3:A3 R.1.2.2.1 R.1.2.2.1=some true:=kf _ (by omega) fun x hx=>cW (o5 x hx) (by decide)
    rw[aA rfl,p1,aD]
    dsimp only
    rw[x1,aD]
    dsimp only
    rw[z1,aD]
    dsimp only
    rw[e1,aD,aB (by decide),e2,aD,aB (by decide),aB (by simp),aB (by simp),e3,aD,aB (by decide),aB (by simp)]
    rw[show(!(R.1.2.2.2.1==R.1.2.2.2.1))=false by simp,aD,aB (by decide),aC]
    exact tail
theorem pl6(a0:aV)(a1 a2 a3 a4 a5:Int)(af0:wf gH a0)(_af1:wf (.int .i64) a1)(_af2:wf (.int .i64) a2)(_af3:wf (.int .i64) a3)(_af4:wf (.int .i64) a4)(_af5:wf (.int .i64) a5):f6 a0 a1 a2 a3 a4 a5=some true:=
 Gm a0 (zX af0.1.1) a1 a2 a3 a4 a5
end Go.Proofs.YtkhfnbfpgcjllaaGreatDoor
