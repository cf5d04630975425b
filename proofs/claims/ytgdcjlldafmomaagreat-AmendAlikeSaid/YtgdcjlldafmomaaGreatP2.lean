/- part -/
import Derived.Test.YtgdcjlldafmomaaGreatP1
import Derived.Test.YtgdcjlldafmomaaGreatUL
import Derived.Test.YtgdcjlldafmomaaGreatA5
import Derived.Test.YtgdcjlldafmomaaGreatFD
import Derived.Test.YtgdcjlldafmomaaGreatS2
noncomputable section
namespace Go.Proofs.YtgdcjlldafmomaaGreat
open Go.Ax
theorem kindB_unit{t:ju}{n:Int}(h:f177 t n=some true):t.2.2.2.2.1= -1:=by
 unfold f177 at h
 obtain⟨v,hv,h⟩:=bind_some h
 cases h
 split at hv
 ·split at hv
  ·split at hv
   ·rename_i e;exact gN e
   ·cases hv
  ·cases hv
 ·cases hv
theorem kindC_unit{t:ju}{n:Int}(h:f178 t n=some true):t.2.2.2.2.1= -1:=by
 unfold f178 at h
 obtain⟨v,hv,h⟩:=bind_some h
 cases h
 split at hv
 ·split at hv
  ·split at hv
   ·rename_i e;exact gN e
   ·cases hv
  ·cases hv
 ·cases hv
theorem kindD_unit{t:ju}{n:Int}(h:f179 t n=some true):t.2.2.2.2.1= -1:=by
 unfold f179 at h
 obtain⟨v,hv,h⟩:=bind_some h
 cases h
 split at hv
 ·split at hv
  ·split at hv
   ·rename_i e;exact gN e
   ·cases hv
  ·cases hv
 ·cases hv
theorem idB{x:Zl}{b:Bool}(h:(Option.bind x fun y=>some y)=some b):x=some b:=by
 cases x with
 |none=>cases h
 |some a=>exact h
theorem typeOK_lt{c:dx}{t:ju}(h:f79 c t=some true):t.2.2.2.2.1<(c.1.2.1.length:Int):=by
 have neg:t.2.2.2.2.1= -1→t.2.2.2.2.1<(c.1.2.1.length:Int):=fun e=>by omega
 by_cases e1:t.1=1
 ·exact(typeOK_unit h e1).2
 ·unfold f79 at h
  by_cases h1:t.1<1
  ·rw[cI h1] at h;cases h
  ·by_cases h2:(4:Int)<t.1
   ·rw[aC (by simpa using h1),cC h2] at h;cases h
   ·rw[aC (by simpa using h1),dF h2,aH,aC (by decide),aI] at h
    dsimp only at h
    rw[aA (by omega),aA (by omega),aC (by omega),aC e1] at h
    by_cases e2:t.1=2
    ·rw[aA e2] at h;exact neg (kindB_unit (idB h))
    ·rw[aC e2] at h
     by_cases e3:t.1=3
     ·rw[aA e3] at h;exact neg (kindC_unit (idB h))
     ·rw[aC e3,aA (by omega)] at h;exact neg (kindD_unit (idB h))
theorem usable_ans(c:dx)(hN:NB c.1)(r:oe):∃b y,f220 c r=some (b,y)∧(b=true→y.2.2.2.2.1<(c.1.2.1.length:Int)):=by
 unfold f220
 rcases typeOf_eq c r.2.2.1 r.2.2.2.1 with⟨hi,e⟩|⟨_,y,e⟩
 ·rw[e,aH]
  dsimp only
  rw[aC (by decide)]
  have hm:=hi.mem
  obtain⟨q,hq⟩:=typeOK_ans c (nth eo (flds c.1 r.2.2.1) r.2.2.2.1).2.1 ((hN _ hm.1).2 _ hm.2)
  rw[hq,aH]
  cases q with
  |false=>exact⟨false,_,rfl,fun h=>(by cases h)⟩
  |
   true=>
   rw[aC (by decide)]
   have hu:=typeOK_lt hq
   by_cases h0:0≤(nth eo (flds c.1 r.2.2.1) r.2.2.2.1).2.1.2.2.2.2.1
   ·rw[cI h0,aA h0,aA hu]
    obtain⟨z,hz⟩:=unitOK_ans c (nth aS c.1.2.1 (nth eo (flds c.1 r.2.2.1) r.2.2.2.1).2.1.2.2.2.2.1)
    rw[hz,aH]
    cases z with
    |false=>exact⟨false,_,rfl,fun h=>(by cases h)⟩
    |true=>exact⟨true,_,rfl,fun _=>hu⟩
   ·rw[aC (show¬decide ((0:Int)≤(nth eo (flds c.1 r.2.2.1) r.2.2.2.1).2.1.2.2.2.2.1)=true by simpa using h0)]
    exact⟨true,_,rfl,fun _=>hu⟩
 ·rw[e,aH]
  exact⟨false,_,rfl,fun h=>(by cases h)⟩
theorem base_ans(s:cY)(hN:NB s)(r:oe)(n:Int):∃p,f217 s r n=some p:=by
 unfold f217
 obtain⟨b,y,e,hu⟩:=usable_ans (s,()) hN r
 rw[e,aH]
 dsimp only
 cases b with
 |false=>exact⟨_,rfl⟩
 |
  true=>
  rw[aC (by decide)]
  by_cases h1:n<0
  ·rw[cI h1];exact⟨_,rfl⟩
  ·rw[aC (show¬decide (n<(0:Int))=true by simpa using h1)]
   by_cases h2:(1048576:Int)<n
   ·rw[cC h2];exact⟨_,rfl⟩
   ·rw[dF h2,aH,aC (by decide),aI]
    dsimp only
    by_cases h0:0≤y.2.2.2.2.1
    ·rw[cI h0,aA h0,aA (hu rfl)];exact⟨_,rfl⟩
    ·rw[aC (show¬decide ((0:Int)≤y.2.2.2.2.1)=true by simpa using h0)];exact⟨_,rfl⟩
theorem compare_ans(a b c:Int):∃r,f218 a b c=some r:=by
 unfold f218
 repeat' (first|exact⟨_,rfl⟩|split)
def FV(s:cY)(PS:Ze)(x:qi)(a:Int):Prop:=x.2.2.2.1.length=(flds s a).length∧∀v∈x.2.2.2.1,v∈PS
structure LI(s:cY)(PS:Ze)(u:cQ)(l:Zx):Prop where
 len:l.length≤u.2.2.1.length
 ok:∀x:Int,0≤x→x<(l.length:Int)→FV s PS (nth gz l x) (nth aL u.2.2.1 x).2.2.1
theorem LI.nil(s:cY)(PS:Ze)(u:cQ):LI s PS u []:=⟨gG _,fun x h0 h1=>by rw[jA] at h1;omega⟩
theorem LI.push{s:cY}{PS:Ze}{u:cQ}{l:Zx}(h:LI s PS u l){x:qi}(hl:l.length<u.2.2.1.length)(hx:FV s PS x (nth aL u.2.2.1 (l.length:Int)).2.2.1):LI s PS u (l++[x]):=by
 refine⟨by rw[cN,cS];omega,fun j h0 h1=>?_⟩
 rw[cN,cS] at h1
 have e:j=(j.toNat:Int):=by omega
 by_cases hj:j<(l.length:Int)
 ·have h2:=h.ok j h0 hj
  rw[e,dg (t:=gz) (by rw[cN];omega),List.getElem_append_left (by omega)]
  rw[e,dg (t:=gz) (by omega)] at h2
  exact h2
 ·have ej:j.toNat=l.length:=by omega
  have ej':j=(l.length:Int):=by omega
  rw[ej',dg (t:=gz) (by rw[cN,cS];omega),List.getElem_append_right (cq _)]
  simp only[Nat.sub_self,List.getElem_singleton]
  exact hx
abbrev cR(s:cY)(u:cQ):fE:=((s,()),(u,()))
theorem values_at{s:cY}{PS:Ze}{u:cQ}{l:Zx}(hL:LI s PS u l){t:gU}{n:Int}(hn:n≤(l.length:Int))(h:InT (cR s u) t n):
 0≤t.2.2.1∧t.2.2.1<(l.length:Int)∧0≤t.2.2.2.1∧t.2.2.2.1<((nth gz l t.2.2.1).2.2.2.1.length:Int)∧nth (.int .i64) (nth gz l t.2.2.1).2.2.2.1 t.2.2.2.1∈PS:=by
 have hv:t.2.2.1<(l.length:Int):=Int.lt_of_lt_of_le h.v1 hn
 obtain⟨h1,h2⟩:=hL.ok _ h.v0 hv
 have hb:=h.f.b1
 have hb:t.2.2.2.1<((nth gz l t.2.2.1).2.2.2.1.length:Int):=by rw[h1];exact hb
 exact⟨h.v0,hv,h.f.b0,hb,h2 _ (dM (t:=.int .i64) h.f.b0 hb)⟩
theorem dval{s:cY}{PS:Ze}{u:cQ}{l:Zx}(hL:LI s PS u l)(hl:l.length=u.2.2.1.length){t:gU}(ht:TOK (cR s u) t):
 ∃v,f175 t l=some v∧(v∈PS∨t.2.2.1= -1∧v=t.2.2.2.2.1):=by
 unfold f175
 by_cases h:t.2.2.1= -1
 ·rw[cI h];exact⟨_,rfl,Or.inr ⟨h,rfl⟩⟩
 ·rcases ht with hi|hi
  ·obtain⟨a1,a2,a3,a4,a5⟩:=values_at hL (by rw[hl];exact jW _) hi
   rw[aC (show¬decide (t.2.2.1=(-1:Int))=true by simpa using h),aA a1,aA a2,aA a3,aA a4]
   exact⟨_,rfl,Or.inl a5⟩
  ·exact absurd hi h
theorem fold_mem(day:Int){L:Zk}:∀(l:Zk)(s:fa×Bool),(∀f∈l,f∈L)→(s.2=true→s.1∈L)→((l.foldl (gY day) s).2=true→(l.foldl (gY day) s).1∈L)
 |[],s,_,hs=>hs
 |
  f::l,s,hl,hs=>by
  rw[List.foldl_cons]
  refine fold_mem day l _ (fun x hx=>hl x (dr _ hx)) ?_
  unfold gY
  split
  ·exact fun _=>hl f (cK ..)
  ·exact hs
theorem atF_mem{l:Zk}{k:ib}{day known:Int}(h:(mC l k day known).2=true):∃f∈l,f.2.1=(mC l k day known).1:=by
 have hm:=fold_mem day (L:=l) (l.filter (dw k known)) (zF,false) (fun x hx=>(List.mem_filter.1 hx).1) (fun h=>by cases h)
 have e:(l.filter (dw k known)).foldl (gY day) (zF,false)=iB k day known l (zF,false):=rfl
 rw[e] at hm
 unfold mC at h ⊢
 dsimp only at h ⊢
 split at h
 ·rename_i hc
  rw[aA hc]
  exact⟨_,hm hc.1,rfl⟩
 ·cases h
theorem factsAt_eq(l:Zk)(k:ib)(day known:Int)(hl:l.length≤aE):∃v b,xS l k day known=some (v,b)∧(b=true→∃f∈l,f.2.1=v):=by
 unfold xS
 rw[aA hl]
 exact⟨_,_,rfl,atF_mem⟩
theorem recorded_eq(s:cY)(hr:s.2.2.2.1.length≤aE)(a:Int):∃b,f49 s a=some b∧(b=true→0≤a∧a<(s.2.2.1.length:Int)∧2≤(flds s a).length):=by
 have hB:=hB
 have no:∀y:Zl,y=some false→∃r,y=some r∧(r=true→0≤a∧a<(s.2.2.1.length:Int)∧2≤(flds s a).length):=fun y hy=>⟨false,hy,fun h=>(by cases h)⟩
 unfold f49
 by_cases h0:a<0
 ·rw[cI h0];exact no _ rfl
 ·rw[aC (show¬decide (a<(0:Int))=true by simpa using h0)]
  by_cases h1:(s.2.2.1.length:Int)≤a
  ·rw[cI h1];exact no _ rfl
  ·rw[aC (show¬decide ((s.2.2.1.length:Int)≤a)=true by simpa using h1),aA (Int.not_lt.1 h0),aA (Int.not_le.1 h1)]
   have e:(nth bJ s.2.2.1 a).2.2.2.2.1=flds s a:=rfl
   rw[e]
   by_cases h2:((flds s a).length:Int)<2
   ·rw[cC h2];exact no _ rfl
   ·rw[dF h2,aH,aC (by decide),aI]
    dsimp only
    have yes:∀y:Zl,(∃z,y=some z)→∃z,y=some z∧(z=true→0≤a∧a<(s.2.2.1.length:Int)∧2≤(flds s a).length):=fun y ⟨z,hz⟩=>⟨z,hz,fun _=>⟨Int.not_lt.1 h0,Int.not_le.1 h1,by omega⟩⟩
    apply yes
    suffices hW:W (aG (U:=Int×Zn) (Bo (Int.toNat (List.length s.2.2.2.1:Int)+1) (a,s.2.2.2.1,(List.length s.2.2.2.1:Int),0,([]:Zn))) (fun x=>some (!(bz (.int .i64) .bool x.1 x.2)))) (fun _=>True) by
     obtain⟨r,hr,_⟩:=hW
     exact⟨r,hr⟩
    refine bY.2 (W.ct (cG (L:=Bo) rfl (CT (fun _=>True) fun _=>True) s.2.2.2.1.length (fun c(d:Zn)=>(a,s.2.2.2.1,(s.2.2.2.1.length:Int),(c:Int),d)) (fun c d=>d.length≤c) ?step ?stop _ 0 [] (by omega) (by omega) (cq _)) (fun d h=>⟨_,rfl,trivial⟩) fun r h=>trivial)
    case step=>
     intro rec c d hc hd kk
     dsimp only
     have hw2:=ku c (by omega)
     rw[cI (by omega),dQ c,aA (show(c:Int)<(s.2.2.2.1.length:Int) by omega),aA (show d.length+1≤aE by omega),hw2]
     exact kk _ (da (dA (kt:=.int .i64)) (by omega))
    case stop=>
     intro rec d hd
     dsimp only
     rw[gK (by omega)]
     exact⟨_,rfl,trivial⟩
theorem recLook_eq{PS:Ze}(v:bO)(s:cY)(hN:NB s)(hl:v.2.1.length≤aE)(hPS:∀f∈v.2.1,f.2.1∈PS)(m a p i d k:Int)(rs:Zh)(hr:(rs.length+1)*40≤aE):
 ∃c b rs',kS m a p i d v k s rs=some (c,b,a,p,i,d,v,k,s,rs')∧rs'.length=rs.length+1∧(b=true→c∈PS):=by
 unfold kS f52
 rw[aH,aA (by rw[cS];exact hr)]
 obtain⟨x,b,e,hb⟩:=factsAt_eq v.2.1 (a,(p,(aZ ((aZ ((16:Int)*i))+m),()))) d k hl
 rw[e,aH]
 dsimp only
 cases b with
 |false=>exact⟨_,false,_,rfl,by rw[cN,cS],fun h=>(by cases h)⟩
 |
  true=>
  obtain⟨f,hf,rfl⟩:=hb rfl
  obtain⟨q,hq⟩:=value_ans s hN a m f.2.1
  rw[aA rfl,hq]
  exact⟨_,q,_,rfl,by rw[cN,cS],fun _=>hPS f hf⟩
theorem recAt_eq{PS:Ze}(v:bO)(hN:NB v.1.1)(hR:v.1.1.2.2.2.1.length≤aE)(hF:∀a,0≤a→a<(v.1.1.2.2.1.length:Int)→(flds v.1.1 a).length≤1000)(hl:v.2.1.length≤aE)(hPS:∀f∈v.2.1,f.2.1∈PS)(a p i d k:Int)(hp:p∈PS):
 W (f33 v a p i d k) fun r=>r.2.2.length≤1000∧(r.1=true→FV v.1.1 PS r.2.1 a):=by
 have hB:=hB
 unfold f33
 obtain⟨b,e,hb⟩:=recorded_eq v.1.1 hR a
 rw[e,aH]
 have no:∀(z:qi),(([]:Zh).length≤1000∧((false:Bool)=true→FV v.1.1 PS z a)):=fun z=>⟨gG _,fun h=>(by cases h)⟩
 cases b with
 |false=>exact⟨_,rfl,no _⟩
 |
  true=>
  obtain⟨a0,a1,a2⟩:=hb rfl
  rw[aC (by decide)]
  have hs:∃z,f50 p i=some z:=by
   unfold f50
   refine bindT ?_ fun v=>⟨v,rfl⟩
   repeat' (first|exact⟨_,rfl⟩|split)
  obtain⟨z,hz⟩:=hs
  rw[hz,aH]
  cases z with
  |false=>exact⟨_,rfl,no _⟩
  |
   true=>
   rw[aC (by decide)]
   by_cases d0:d<0
   ·rw[cI d0];exact⟨_,rfl,no _⟩
   ·rw[aC (show¬decide (d<(0:Int))=true by simpa using d0)]
    by_cases d1:(1024:Int)≤d
    ·rw[cC d1];exact⟨_,rfl,no _⟩
    ·rw[dF d1,aH,aC (by decide),aI]
     dsimp only
     have hFa:=hF a a0 a1
     have e:(nth bJ v.1.1.2.2.1 a).2.2.2.2.1=flds v.1.1 a:=rfl
     refine bY.2 (W.ct (cG (L:=nK) rfl (CT (fun r=>∃t s,r=(a,p,i,0,0,0,t,s)∧s.length≤1000∧t.length=(flds v.1.1 a).length∧∀x∈t,x∈PS) fun r=>r.1=false∧r.2.2.length≤1000) (flds v.1.1 a).length (fun c(u:Ze×Zh)=>((c:Int),v,a,p,i,d,k,0,0,0,v.1.1,u.1,u.2)) (fun c u=>u.1.length=c∧u.2.length≤c∧∀x∈u.1,x∈PS) ?step ?stop fJ 1 ([p],[]) (by show _<18446744073709551616;omega) (by omega) ⟨rfl,gG _,fun x hx=>(by rw[List.mem_singleton.1 hx];exact hp)⟩) (fun r h=>?_) fun r h=>?_)
     case step=>
      rintro rec c ⟨t,s⟩ hc ⟨ht,hs,hP⟩ kk
      dsimp only at ht hs hP ⊢
      have hw2:=ku c (by omega)
      rw[e,aA a0,aA a1,cI (by omega)]
      obtain⟨x,b,s',e2,hs',hx⟩:=recLook_eq v v.1.1 hN hl hPS (c:Int) a p i d k s (by omega)
      rw[e2,aH]
      dsimp only
      cases b with
      |false=>exact⟨_,rfl,rfl,by show s'.length≤1000;omega⟩
      |
       true=>
       rw[aC (by decide),aA (show(t.length+List.length [x])*8≤aE by rw[cS];omega),hw2]
       refine kk (t++[x],s') ⟨by rw[cN,cS,ht],by show s'.length≤c+1;omega,fun y hy=>?_⟩
       rcases List.mem_append.1 hy with h|h
       ·exact hP y h
       ·rw[List.mem_singleton.1 h];exact hx rfl
     case stop=>
      rintro rec ⟨t,s⟩ ⟨ht,hs,hP⟩
      dsimp only at ht hs hP ⊢
      rw[e,aA a0,aA a1,gK (by omega)]
      exact⟨_,rfl,t,s,rfl,by omega,ht,hP⟩
     ·obtain⟨t,s,rfl,h1,h2,h3⟩:=h
      exact⟨_,rfl,h1,fun _=>⟨h2,h3⟩⟩
     ·exact⟨h.2,fun h'=>by rw[h.1] at h';cases h'⟩
theorem freshL_eq:∀(rs:Zh)(se:Zi)(acc:Zh),se.length+rs.length≤aE→(acc.length+rs.length)*40≤aE→∃s' a',iY rs se acc=some (s',a')∧s'.length≤se.length+rs.length∧a'.length≤acc.length+rs.length
 |[],se,acc,_,_=>⟨se,acc,rfl,cq _,cq _⟩
 |
  r::rs,se,acc,h1,h2=>by
  rw[dE] at h1 h2 ⊢
  unfold iY
  split
  ·obtain⟨s',a',e,q1,q2⟩:=freshL_eq rs se acc (by omega) (by omega)
   exact⟨s',a',e,by omega,by omega⟩
  ·have hm:(bE bx r true se).length≤se.length+1:=dA
   rw[aA (by omega),aA (by omega)]
   obtain⟨s',a',e,q1,q2⟩:=freshL_eq rs (bE bx r true se) (acc++[r]) (by omega) (by rw[cN,cS];omega)
   rw[cN,cS] at q2
   exact⟨s',a',e,by omega,by omega⟩
abbrev Pl:=ib
abbrev FM:=Zj
abbrev SM:=Zi
abbrev DM:=Zf
def IX(PS:Ze)(ix:Ix):Prop:=∀key,(bz bu (.slice 64 aP) key (bU ix)).length≤1000000∧∀f∈bz bu (.slice 64 aP) key (bU ix),f.2.1∈PS
structure WX(w:bO)(lo:Ze)(PS:Ze)(U:List Pl)(ix:Ix):Prop where
 cg:CG w.1.1 lo
 zero:(0:Int)∈PS
 consts:∀u∈w.1.1.2.2.2.1,∀t∈u.2.2.2.2.1,t.2.2.1.2.2.2.2.1∈PS
 pl:∀a p i:Int,0≤a→a<(w.1.1.2.2.1.length:Int)→p∈PS→0≤i→i<4→(a,(p,(i,())))∈U
 len:U.length≤1000000
 fl:∀a,0≤a→a<(w.1.1.2.2.1.length:Int)→(flds w.1.1 a).length≤1000
 ix:IX PS ix
structure FI(s:cY)(PS:Ze)(U:List Pl)(fo:FM)(se:SM)(rs:Zh):Prop where
 nod:(fo.map (·.1)).Nodup
 sub:∀e∈fo,e.1∈U
 ok:∀e∈fo,e.2.2.2.2.1=true→FV s PS e.2.1 e.1.1
 se:se.length≤1000*fo.length
 rs:rs.length≤1000*fo.length
theorem nodup_sub{α:Type}:∀(l L:List α),l.Nodup→(∀x∈l,x∈L)→l.length≤L.length:=by
 classical
 intro l
 induction l with
 |nil=>intro L _ _;exact gG _
 |
  cons a l ih=>
  intro L hn hs
  have ha:=hs a (cK ..)
  have h:=ih (L.erase a) (List.nodup_cons.1 hn).2 fun x hx=>(List.mem_erase_of_ne (fun e:x=a=>(List.nodup_cons.1 hn).1 (e▸hx))).2 (hs x (dr _ hx))
  rw[List.length_erase_of_mem ha] at h
  have hp:=List.length_pos_of_mem ha
  rw[dE]
  omega
theorem FI.len{s:cY}{PS:Ze}{U:List Pl}{fo:FM}{se:SM}{rs:Zh}(h:FI s PS U fo se rs):fo.length≤U.length:=by
 have:=nodup_sub _ U h.nod fun x hx=>by
  obtain⟨e,he,rfl⟩:=List.mem_map.1 hx
  exact h.sub e he
 rwa [iK] at this
theorem mset_ge{α:Type}{kt:Ty}{k:kt.den}{y:α}:∀{es:List (kt.den×α)},es.length≤(bE kt k y es).length
 |[]=>gG _
 |
  e::es=>by
  unfold bE
  split
  ·exact cq _
  ·rw[dE,dE];exact Nat.succ_le_succ mset_ge
theorem FI.put{s:cY}{PS:Ze}{U:List Pl}{fo:FM}{se:SM}{rs:Zh}(h:FI s PS U fo se rs){p:Pl}(hp:p∈U){x:qj}(hx:x.2.2.2.1=true→FV s PS x.1 p.1){se':SM}{rs':Zh}
 (h1:se'.length≤1000*(bE bu p x fo).length) (h2:rs'.length≤1000*(bE bu p x fo).length):FI s PS U (bE bu p x fo) se' rs' where
 nod:=dL (kt:=bu) rfl h.nod
 sub e he:=by
  rcases fX (kt:=bu) he with rfl|he
  ·exact hp
  ·exact h.sub e he
 ok e he:=by
  rcases fX (kt:=bu) he with rfl|he
  ·exact hx
  ·exact h.ok e he
 se:=h1
 rs:=h2
theorem FI.nil(s:cY)(PS:Ze)(U:List Pl):FI s PS U [] [] []:=
 ⟨List.nodup_nil,fun e he=>(by cases he),fun e he=>(by cases he),cq _,cq _⟩
theorem about_eq{w:bO}{lo PS:Ze}{U:List Pl}{ix:Ix}(hw:WX w lo PS U ix)(p:Pl)(d k:Int)(b:Bool)(m:DM)(z:Unit)(fo:FM)(se:SM)(rs:Zh):
 ∃L:Zk,iA p w ix d k b m z fo se rs=some (w,ix,d,k,b,m,z,fo,se,rs,(w.1,(L,())))∧L.length≤1000*1000000∧∀f∈L,f.2.1∈PS:=by
 have hB:=hB
 suffices hW:W (iA p w ix d k b m z fo se rs) fun r=>∃L:Zk,r=(w,ix,d,k,b,m,z,fo,se,rs,(w.1,(L,())))∧L.length≤1000*1000000∧∀f∈L,f.2.1∈PS by
  obtain⟨r,e,L,rfl,h⟩:=hW
  exact⟨L,e,h⟩
 have nil:∀f∈([]:Zk),f.2.1∈PS:=fun f hf=>(by cases hf)
 unfold iA
 by_cases h0:0≤p.1
 ·rw[cI h0]
  by_cases h1:p.1<(w.1.1.2.2.1.length:Int)
  ·rw[cC h1,aH,aA rfl,aA h0,aA h1]
   have e:(nth bJ w.1.1.2.2.1 p.1).2.2.2.2.1=flds w.1.1 p.1:=rfl
   have hF:=hw.fl _ h0 h1
   rw[e]
   refine bY.2 (W.ct (cG (L:=kP) rfl (CT (fun r=>∃L:Zk,r=(w,ix,d,k,b,m,z,fo,se,rs,w.1,L)∧L.length≤1000*1000000∧∀f∈L,f.2.1∈PS) fun _=>False) (flds w.1.1 p.1).length (fun c(L:Zk)=>(((flds w.1.1 p.1).length:Int),(c:Int),w,ix,d,k,b,m,z,fo,se,rs,p,w.1,L)) (fun c L=>L.length≤c*1000000∧∀f∈L,f.2.1∈PS) ?step ?stop _ 0 [] (by omega) (by omega) ⟨gG _,nil⟩) (fun r h=>?_) fun r h=>?_)
   case step=>
    rintro rec c L hc ⟨hL,hP⟩ kk
    dsimp only
    have hw2:=ku c (by omega)
    obtain⟨q1,q2⟩:=hw.ix (p.1,(p.2.1,(aZ ((aZ ((16:Int)*p.2.2.1))+(c:Int)),())))
    rw[cI (by omega),aA (by omega),hw2]
    refine kk _ ⟨by rw[cN];omega,fun f hf=>?_⟩
    rcases List.mem_append.1 hf with h|h
    ·exact hP f h
    ·exact q2 f h
   case stop=>
    rintro rec L ⟨hL,hP⟩
    dsimp only
    rw[gK (by omega)]
    exact⟨_,rfl,L,rfl,da hL (fv _ hF),hP⟩
   ·obtain⟨L,rfl,h⟩:=h
    exact⟨_,rfl,L,rfl,h⟩
   ·exact h.elim
  ·rw[dF h1];exact⟨_,rfl,[],rfl,gG _,nil⟩
 ·rw[aC (show¬decide ((0:Int)≤p.1)=true by simpa using h0)];exact⟨_,rfl,[],rfl,gG _,nil⟩
def PL(w:bO)(PS:Ze)(U:List Pl)(ix:Ix)(d k:Int)(b:Bool)(m:DM)(z:Unit)(p:Pl)(r:bO×Ix×Int×Int×Bool×DM×Unit×FM×SM×qj×List ko):Prop:=
 ∃fo se x rs,r=(w,ix,d,k,b,m,z,fo,se,x,rs)∧FI w.1.1 PS U fo se rs∧(x.2.2.2.1=true→FV w.1.1 PS x.1 p.1)
theorem found_eq{w:bO}{PS:Ze}{U:List Pl}(ix:Ix)(p:Pl)(d k:Int)(b:Bool)(m:DM)(z:Unit){fo:FM}{se:SM}{rs:Zh}(h:FI w.1.1 PS U fo se rs)(hp:cJ bu p fo=true):
 PL w PS U ix d k b m z p (w,ix,d,k,b,m,z,fo,se,bz bu cp p fo,rs):=by
 refine⟨_,_,_,_,rfl,h,fun hx=>?_⟩
 obtain⟨i,hi⟩:=pq (kt:=bu) (vt:=cp) rfl hp
 exact h.ok _ (fP hi) hx
theorem lookR{w:bO}{lo PS:Ze}{U:List Pl}{ix:Ix}(hw:WX w lo PS U ix)(p:Pl)(d k:Int)(b:Bool)(m:DM)(z:Unit){fo:FM}{se:SM}{rs:Zh}(h:FI w.1.1 PS U fo se rs)(hp:cJ bu p fo=false)(hU:p∈U)(hP:p.2.1∈PS):
 ∃(L:Zk)(y:Bool)(x:qi)(n:Zh)(se':SM)(rs':Zh),iA p w ix d k b m z fo se rs=some (w,ix,d,k,b,m,z,fo,se,rs,(w.1,(L,())))∧f33 (w.1,(L,())) p.1 p.2.1 p.2.2.1 d k=some (y,x,n)∧
  gW rs n w ix d k b m z fo se=some (n,w,ix,d,k,b,m,z,fo,se',rs')∧fo.length+1≤aE∧
  PL w PS U ix d k b m z p (w,ix,d,k,b,m,z,bE bu p (x,((0:Int),(([]:Zx),(y,())))) fo,se',(x,((0:Int),(([]:Zx),(y,())))),rs'):=by
 have hB:=hB
 obtain⟨L,e1,hL,hPS⟩:=about_eq hw p d k b m z fo se rs
 obtain⟨⟨y,x,n⟩,e2,hn,hx⟩:=recAt_eq (PS:=PS) (w.1,(L,())) hw.cg.sw.nb hw.cg.sw.rules hw.fl (by show L.length≤aE;omega) hPS p.1 p.2.1 p.2.2.1 d k hP
 dsimp only at hn hx
 have hlen:=h.len
 have h1:=hw.len
 have h2:=h.se
 have h3:=h.rs
 obtain⟨se',rs',e3,q1,q2⟩:=freshL_eq n se rs (by omega) (by omega)
 refine⟨L,y,x,n,se',rs',e1,e2,?_,by omega,?_⟩
 ·unfold gW
  rw[aA (by omega),e3]
  rfl
 ·have hnew:(bE bu p (x,((0:Int),(([]:Zx),(y,())))) fo).length=fo.length+1:=by
   rw[mn (kt:=bu) rfl (fun hm=>by rw[(fD (kt:=bu) rfl).2 hm] at hp;cases hp),cN,cS]
  exact⟨_,_,_,_,rfl,h.put hU hx (by omega) (by omega),hx⟩
abbrev Q0:=Pl×bO×Ix×Int×Int×Bool×DM×Unit×FM×SM×List ko×Unit→Option (bO×Ix×Int×Int×Bool×DM×Unit×FM×SM×qj×List ko)
abbrev Q1:=cQ×Int×List qi×bO×Ix×Int×Int×Bool×DM×Unit×FM×SM×List ko×Unit→Option (Bool×cQ×Int×bO×Ix×Int×Int×Bool×DM×Unit×FM×SM×List qi×List ko)
theorem holdT_u{s:cY}{PS:Ze}{u:cQ}{l:Zx}(hN:NB s)(hL:LI s PS u l)(hl:l.length=u.2.2.1.length){t:gU}(ht:TOK (cR s u) t)(h1:t.2.2.1≠-1):
 ∃n,∀(w:bO),w.1.1=s→∀ix d k b m z fo se rs,pC t u w ix d k b m z l fo se rs=some (n,u,w,ix,d,k,b,m,z,l,fo,se,rs):=by
 rcases ht with hi|hi
 ·obtain⟨v,hv,_⟩:=dval hL hl (Or.inl hi)
  obtain⟨p,hp⟩:=base_ans s hN ([],([],((nth aL u.2.2.1 t.2.2.1).2.2.1,(t.2.2.2.1,())))) v
  refine⟨p.1,fun w hw ix d k b m z fo se rs=>?_⟩
  have hp':f217 w.1.1 ([],([],((nth aL u.2.2.1 t.2.2.1).2.2.1,(t.2.2.2.1,())))) v=some p:=by rw[hw];exact hp
  unfold pC
  rw[aA hi.v0,aA (show t.2.2.1<(u.2.2.1.length:Int) from hi.v1),hv,aH,hp']
  rfl
 ·exact absurd hi h1
theorem hold_u{s:cY}{PS:Ze}{u:cQ}{l:Zx}(hN:NB s)(hw:u.2.2.2.1.length≤aE)(hR:RK (cR s u))(hL:LI s PS u l)(hl:l.length=u.2.2.1.length):
 ∃y,∀(w:bO),w.1.1=s→∀ix d k b m z fo se rs,sx u w ix d k b m z l fo se rs=some (y,w,ix,d,k,b,m,z,l,fo,se,rs):=by
 have hB:=hB
 have key:∀n i:Nat,u.2.2.2.1.length -i<n→i≤u.2.2.2.1.length→∃y:Bool,∀(w:bO),w.1.1=s→∀ix d k b m z fo se rs,
  gF n (u.2.2.2.1,(u.2.2.2.1.length:Int),(i:Int),w,ix,d,k,b,m,z,l,fo,se,rs,u)=some (if y=true then .brk (w,ix,d,k,b,m,z,l,fo,se,rs) else .ret (false,w,ix,d,k,b,m,z,l,fo,se,rs)):=by
  intro n
  induction n with
  |zero=>intro i h;omega
  |
   succ n ih=>
   intro i hn hi
   by_cases h:i<u.2.2.2.1.length
   ·have hm:TOK (cR s u) (nth aQ u.2.2.2.1 (i:Int)).2.1∧TOK (cR s u) (nth aQ u.2.2.2.1 (i:Int)).2.2.1:=hR.wh _ (dM (t:=aQ) (l:=u.2.2.2.1) (dD i) (show(i:Int)<(u.2.2.2.1.length:Int) by omega))
    obtain⟨y,hy⟩:=ih (i+1) (by omega) (by omega)
    have hw2:=ku i (by omega)
    have hi1:(i:Int)<(u.2.2.2.1.length:Int):=by omega
    generalize ha:nth aQ u.2.2.2.1 (i:Int)=a at hm
    obtain⟨v1,e1,_⟩:=dval hL hl hm.1
    obtain⟨v2,e2,_⟩:=dval hL hl hm.2
    have fin:∀(p q:Int)(c:Bool),f218 a.1 p q=some c→∀(w:bO) ix d k b m z fo se rs(rec:(Zy)×Int×Int×bO×Ix×Int×Int×Bool×DM×Unit×(Zx)×FM×SM×(Zh)×cQ→Option (cW (bO×Ix×Int×Int×Bool×DM×Unit×(Zx)×FM×SM×(Zh)) (Bool×bO×Ix×Int×Int×Bool×DM×Unit×(Zx)×FM×SM×(Zh)))),
     rec (u.2.2.2.1,(u.2.2.2.1.length:Int),((i+1:Nat):Int),w,ix,d,k,b,m,z,l,fo,se,rs,u)=some (if y=true then .brk (w,ix,d,k,b,m,z,l,fo,se,rs) else .ret (false,w,ix,d,k,b,m,z,l,fo,se,rs))→
     (Option.bind (f218 a.1 p q) fun y10=>if(!y10)=true then(cn (some (false,w,ix,d,k,b,m,z,l,fo,se,rs))) else(rec (u.2.2.2.1,(u.2.2.2.1.length:Int),aZ ((i:Int)+(1:Int)),w,ix,d,k,b,m,z,l,fo,se,rs,u)))=some (if(c&&y)=true then .brk (w,ix,d,k,b,m,z,l,fo,se,rs) else .ret (false,w,ix,d,k,b,m,z,l,fo,se,rs)):=by
     intro p q c hc w ix d k b m z fo se rs rec hr
     rw[hc,aH]
     cases c with
     |false=>rfl
     |true=>rw[aC (by decide),hw2,hr];rfl
    have hi0:=dD i
    by_cases n1:a.2.1.2.2.1= -1
    ·obtain⟨c,hc⟩:=compare_ans a.1 v1 v2
     refine⟨c&&y,fun w hws ix d k b m z fo se rs=>?_⟩
     have hyw:=hy w hws ix d k b m z fo se rs
     unfold gF at hyw ⊢
     rw[aM]
     generalize aK _ n=rec at hyw ⊢
     dsimp only
     rw[cI hi1,aA hi0,aA hi1,ha,e1,aH,e2,aH,aC (show¬(!decide (a.2.1.2.2.1=(-1:Int)))=true by simpa using n1)]
     exact fin v1 v2 c hc w ix d k b m z fo se rs rec hyw
    ·by_cases n2:a.2.2.1.2.2.1= -1
     ·obtain⟨c,hc⟩:=compare_ans a.1 v1 v2
      refine⟨c&&y,fun w hws ix d k b m z fo se rs=>?_⟩
      have hyw:=hy w hws ix d k b m z fo se rs
      unfold gF at hyw ⊢
      rw[aM]
      generalize aK _ n=rec at hyw ⊢
      dsimp only
      rw[cI hi1,aA hi0,aA hi1,ha,e1,aH,e2,aH,aA (show(!decide (a.2.1.2.2.1=(-1:Int)))=true by simpa using n1),aH,aC (show¬(!decide (a.2.2.1.2.2.1=(-1:Int)))=true by simpa using n2)]
      exact fin v1 v2 c hc w ix d k b m z fo se rs rec hyw
     ·obtain⟨p,hp⟩:=holdT_u hN hL hl hm.1 n1
      obtain⟨q,hq⟩:=holdT_u hN hL hl hm.2 n2
      obtain⟨c,hc⟩:=compare_ans a.1 p q
      refine⟨c&&y,fun w hws ix d k b m z fo se rs=>?_⟩
      have hyw:=hy w hws ix d k b m z fo se rs
      unfold gF at hyw ⊢
      rw[aM]
      generalize aK _ n=rec at hyw ⊢
      dsimp only
      rw[cI hi1,aA hi0,aA hi1,ha,e1,aH,e2,aH,aA (show(!decide (a.2.1.2.2.1=(-1:Int)))=true by simpa using n1),aH,aA (show(!decide (a.2.2.1.2.2.1=(-1:Int)))=true by simpa using n2),hp w hws ix d k b m z fo se rs,aH]
      dsimp only
      rw[hq w hws ix d k b m z fo se rs,aH]
      exact fin p q c hc w ix d k b m z fo se rs rec hyw
   ·refine⟨true,fun w hws ix d k b m z fo se rs=>?_⟩
    unfold gF
    rw[aM]
    dsimp only
    rw[gK (by omega)]
    rfl
 obtain⟨y,hy⟩:=key (Int.toNat (List.length u.2.2.2.1:Int)+1) 0 (by omega) (by omega)
 refine⟨y,fun w hws ix d k b m z fo se rs=>?_⟩
 have hyw:gF (Int.toNat (List.length u.2.2.2.1:Int)+1) (u.2.2.2.1,(List.length u.2.2.2.1:Int),0,w,ix,d,k,b,m,z,l,fo,se,rs,u)=_:=hy w hws ix d k b m z fo se rs
 unfold sx
 rw[hyw]
 cases y<;>rfl
theorem build_u{s:cY}{PS:Ze}{u:cQ}{l:Zx}(hw:u.2.2.2.2.1.length≤aE)(hR:RK (cR s u))(hL:LI s PS u l)(hl:l.length=u.2.2.1.length)(hf:1≤(flds s u.2.1).length)(hf2:(flds s u.2.1).length≤1000)(p:Int)(hp:p∈PS)(h0:(0:Int)∈PS)(hc:∀t∈u.2.2.2.2.1,t.2.2.1.2.2.2.2.1∈PS):
 ∃x,FV s PS x u.2.1∧∀(w:bO),w.1.1=s→∀ix d k b m z fo se rs,su u p l w ix d k b m z fo se rs=some (w,ix,d,k,b,m,z,fo,se,rs,x):=by
 have hB:=hB
 have key:∀(n i:Nat)(v:Ze),u.2.2.2.2.1.length -i<n→i≤u.2.2.2.2.1.length→v.length=(flds s u.2.1).length→(∀x∈v,x∈PS)→∃v',v'.length=(flds s u.2.1).length∧(∀x∈v',x∈PS)∧∀(w:bO) ix d k b m z fo se rs,
  jN n (p,l,u.2.2.2.2.1,(u.2.2.2.2.1.length:Int),(i:Int),w,ix,d,k,b,m,z,fo,se,rs,u,0,0,0,v)=some (.brk (p,w,ix,d,k,b,m,z,fo,se,rs,u,0,0,0,v')):=by
  intro n
  induction n with
  |zero=>intro i v h;omega
  |
   succ n ih=>
   intro i v hn hi hv hP
   by_cases h:i<u.2.2.2.2.1.length
   ·have hi1:(i:Int)<(u.2.2.2.2.1.length:Int):=by omega
    have hi0:=dD i
    have hm:=dM (t:=aY) (l:=u.2.2.2.2.1) hi0 hi1
    have hw2:=ku i (by omega)
    have hc2:=hc _ hm
    obtain⟨hi,ht⟩:=hR.st _ hm
    obtain⟨y,ey,hy⟩:=dval hL hl ht
    have hb:(nth aY u.2.2.2.2.1 (i:Int)).2.1<(v.length:Int):=by rw[hv];exact hi.b1
    obtain⟨v',q1,q2,q3⟩:=ih (i+1) (List.set v (Int.toNat (nth aY u.2.2.2.2.1 (i:Int)).2.1) y) (by omega) (by omega) (by rw[bF];exact hv) (fun x hx=>by
     rcases List.mem_or_eq_of_mem_set hx with h|rfl
     ·exact hP _ h
     ·rcases hy with h|⟨_,rfl⟩
      ·exact h
      ·exact hc2)
    refine⟨v',q1,q2,fun w ix d k b m z fo se rs=>?_⟩
    have hyw:=q3 w ix d k b m z fo se rs
    unfold jN at hyw ⊢
    rw[aM]
    generalize aK _ n=rec at hyw ⊢
    dsimp only
    rw[cI hi1,aA hi0,aA hi1,ey,aH,aA hi.b0,aA hb,hw2]
    exact hyw
   ·refine⟨v,hv,hP,fun w ix d k b m z fo se rs=>?_⟩
    unfold jN
    rw[aM]
    dsimp only
    rw[gK (by omega)]
 obtain⟨v',q1,q2,q3⟩:=key (Int.toNat (List.length u.2.2.2.2.1:Int)+1) 0 (List.set (List.replicate (Int.toNat ((flds s u.2.1).length:Int)) (0:Int)) (Int.toNat (0:Int)) p) (by omega) (by omega) (by rw[bF,fO,dJ]) (fun x hx=>by
  rcases List.mem_or_eq_of_mem_set hx with h|rfl
  ·rw[List.mem_replicate] at h
   rw[h.2];exact h0
  ·exact hp)
 refine⟨(u.2.1,(p,((0:Int),(v',())))),⟨q1,q2⟩,fun w hws ix d k b m z fo se rs=>?_⟩
 subst hws
 have e:(nth bJ w.1.1.2.2.1 u.2.1).2.2.2.2.1=flds w.1.1 u.2.1:=rfl
 have q:=q3 w ix d k b m z fo se rs
 have q':jN (Int.toNat (List.length u.2.2.2.2.1:Int)+1) (p,l,u.2.2.2.2.1,(List.length u.2.2.2.2.1:Int),0,w,ix,d,k,b,m,z,fo,se,rs,u,0,0,0,List.set (List.replicate (Int.toNat ((flds w.1.1 u.2.1).length:Int)) (0:Int)) (Int.toNat (0:Int)) p)=_:=q
 unfold su
 rw[aA hR.h0,aA hR.h1,e,dQ _,aA (jW _),aA (by omega),aA (by rw[fO,dJ];omega),q',aI]
def aboutL(s:cY)(ix:Ix)(p:Pl):Zk:=if 0≤p.1∧p.1<(s.2.2.1.length:Int) then(List.range (flds s p.1).length).flatMap fun(c:Nat)=>bz bu (.slice 64 aP) (p.1,(p.2.1,(aZ ((aZ ((16:Int)*p.2.2.1))+(c:Int)),()))) (bU ix) else[]
theorem about_u{w:bO}{lo PS:Ze}{U:List Pl}{ix:Ix}(hw:WX w lo PS U ix)(p:Pl)(d k:Int)(b:Bool)(m:DM)(z:Unit)(fo:FM)(se:SM)(rs:Zh):
 iA p w ix d k b m z fo se rs=some (w,ix,d,k,b,m,z,fo,se,rs,(w.1,(aboutL w.1.1 ix p,()))):=by
 have hB:=hB
 suffices hW:W (iA p w ix d k b m z fo se rs) fun r=>r=(w,ix,d,k,b,m,z,fo,se,rs,(w.1,(aboutL w.1.1 ix p,()))) by
  obtain⟨r,e,rfl⟩:=hW
  exact e
 unfold iA
 by_cases h0:0≤p.1
 ·rw[cI h0]
  by_cases h1:p.1<(w.1.1.2.2.1.length:Int)
  ·rw[cC h1,aH,aA rfl,aA h0,aA h1]
   have e:(nth bJ w.1.1.2.2.1 p.1).2.2.2.2.1=flds w.1.1 p.1:=rfl
   have hF:=hw.fl _ h0 h1
   rw[e]
   have ea:aboutL w.1.1 ix p=(List.range (flds w.1.1 p.1).length).flatMap fun(c:Nat)=>bz bu (.slice 64 aP) (p.1,(p.2.1,(aZ ((aZ ((16:Int)*p.2.2.1))+(c:Int)),()))) (bU ix):=aA ⟨h0,h1⟩
   rw[ea]
   refine bY.2 (W.ct (cG (L:=kP) rfl (CT (fun r=>r=(w,ix,d,k,b,m,z,fo,se,rs,w.1,(List.range (flds w.1.1 p.1).length).flatMap fun(c:Nat)=>bz bu (.slice 64 aP) (p.1,(p.2.1,(aZ ((aZ ((16:Int)*p.2.2.1))+(c:Int)),()))) (bU ix))) fun _=>False) (flds w.1.1 p.1).length (fun c(L:Zk)=>(((flds w.1.1 p.1).length:Int),(c:Int),w,ix,d,k,b,m,z,fo,se,rs,p,w.1,L)) (fun c L=>L.length≤c*1000000∧L=(List.range c).flatMap fun(c:Nat)=>bz bu (.slice 64 aP) (p.1,(p.2.1,(aZ ((aZ ((16:Int)*p.2.2.1))+(c:Int)),()))) (bU ix)) ?step ?stop _ 0 [] (by omega) (by omega) ⟨gG _,rfl⟩) (fun r h=>?_) fun r h=>h.elim)
   case step=>
    rintro rec c L hc ⟨hL,hP⟩ kk
    dsimp only
    have hw2:=ku c (by omega)
    obtain⟨q1,q2⟩:=hw.ix (p.1,(p.2.1,(aZ ((aZ ((16:Int)*p.2.2.1))+(c:Int)),())))
    rw[cI (by omega),aA (by omega),hw2]
    refine kk _ ⟨by rw[cN];omega,?_⟩
    rw[List.range_succ,List.flatMap_append,←hP,List.flatMap_cons,List.flatMap_nil,eG]
   case stop=>
    rintro rec L ⟨hL,hP⟩
    dsimp only
    rw[gK (by omega),hP]
    exact⟨_,rfl,rfl⟩
   ·subst h
    exact⟨_,rfl,rfl⟩
  ·have ea:aboutL w.1.1 ix p= []:=aC fun h=>h1 h.2
   rw[dF h1,ea];exact⟨_,rfl,rfl⟩
 ·have ea:aboutL w.1.1 ix p= []:=aC fun h=>h0 h.1
  rw[aC (show¬decide ((0:Int)≤p.1)=true by simpa using h0),ea];exact⟨_,rfl,rfl⟩
def SI(se:SM)(rs:Zh):Prop:=∀r,bz bx .bool r se=true→r∈rs
theorem fresh_si:∀(n:Zh)(se:SM)(acc:Zh)(s':SM)(a':Zh),iY n se acc=some (s',a')→SI se acc→SI s' a'∧(∀r∈acc,r∈a')∧∀r∈n,r∈a'
 |
  [],se,acc,s',a',h,hs=>by
  cases h
  exact⟨hs,fun _ h=>h,fun r h=>(by cases h)⟩
 |
  r::n,se,acc,s',a',h,hs=>by
  unfold iY at h
  split at h
  ·rename_i hm
   obtain⟨q1,q2,q3⟩:=fresh_si n se acc s' a' h hs
   refine⟨q1,q2,fun x hx=>?_⟩
   rcases List.mem_cons.1 hx with rfl|hx
   ·exact q2 _ (hs _ hm)
   ·exact q3 x hx
  ·split at h
   ·split at h
    ·have hs':SI (bE bx r true se) (acc++[r]):=fun x hx=>by
      by_cases e:x=r
      ·rw[e];exact oI _ (List.mem_singleton.2 rfl)
      ·rw[dB (kt:=bx) (vt:=.bool) rfl e] at hx
       exact gM _ (hs x hx)
     obtain⟨q1,q2,q3⟩:=fresh_si n _ _ s' a' h hs'
     refine⟨q1,fun x hx=>q2 x (gM _ hx),fun x hx=>?_⟩
     rcases List.mem_cons.1 hx with rfl|hx
     ·exact q2 _ (oI _ (List.mem_singleton.2 rfl))
     ·exact q3 x hx
    ·cases h
   ·cases h
structure T2(w1:bO)(ix1:Ix)(k1:Int)(w2:bO)(ix2:Ix)(k2:Int)(lo PS:Ze)(U:List Pl)(d:Int)(Gd:ko→Prop):Prop where
 h1:WX w1 lo PS U ix1
 h2:WX w2 lo PS U ix2
 tb:w2.1=w1.1
 rd:∀(p:Pl) r,f33 (w1.1,(aboutL w1.1.1 ix1 p,())) p.1 p.2.1 p.2.2.1 d k1=some r→(∀q∈r.2.2,Gd q)→f33 (w2.1,(aboutL w2.1.1 ix2 p,())) p.1 p.2.1 p.2.2.1 d k2=some r
def PL2(w1:bO)(ix1:Ix)(k1:Int)(w2:bO)(ix2:Ix)(k2:Int)(PS:Ze)(U:List Pl)(d:Int)(Gd:ko→Prop)(b:Bool)(m:DM)(z:Unit)(p:Pl)(rs:Zh)(r:bO×Ix×Int×Int×Bool×DM×Unit×FM×SM×qj×List ko)(y2:Option (bO×Ix×Int×Int×Bool×DM×Unit×FM×SM×qj×List ko)):Prop:=
 ∃fo' se' x rs',r=(w1,ix1,d,k1,b,m,z,fo',se',x,rs')∧FI w1.1.1 PS U fo' se' rs'∧(x.2.2.2.1=true→FV w1.1.1 PS x.1 p.1)∧SI se' rs'∧(∀q∈rs,q∈rs')∧((∀q∈rs',Gd q)→y2=some (w2,ix2,d,k2,b,m,z,fo',se',x,rs'))
theorem lookK2{w1:bO}{ix1:Ix}{k1:Int}{w2:bO}{ix2:Ix}{k2:Int}{lo PS:Ze}{U:List Pl}{d:Int}{Gd:ko→Prop}(H:T2 w1 ix1 k1 w2 ix2 k2 lo PS U d Gd)(q0:Q0)(q1:Q1)(r0:Q0)(r1:Q1)(p:Pl)(b:Bool)(m:DM)(z:Unit){fo:FM}{se:SM}{rs:Zh}(h:FI w1.1.1 PS U fo se rs)(hS:SI se rs)(hU:p∈U)(hP:p.2.1∈PS)
 (hd:W (lr q0 q1 p w1 ix1 d k1 b m z fo se rs) fun r=>PL2 w1 ix1 k1 w2 ix2 k2 PS U d Gd b m z p rs r (lr r0 r1 p w2 ix2 d k2 b m z fo se rs)):
 W (gZ q0 q1 p w1 ix1 d k1 b m z fo se rs) fun r=>PL2 w1 ix1 k1 w2 ix2 k2 PS U d Gd b m z p rs r (gZ r0 r1 p w2 ix2 d k2 b m z fo se rs):=by
 have hB:=hB
 cases hp:cJ bu p fo with
 |
  true=>
  have e1:gZ q0 q1 p w1 ix1 d k1 b m z fo se rs=some (w1,ix1,d,k1,b,m,z,fo,se,bz bu cp p fo,rs):=by unfold gZ;rw[hp,aA rfl]
  have e2:gZ r0 r1 p w2 ix2 d k2 b m z fo se rs=some (w2,ix2,d,k2,b,m,z,fo,se,bz bu cp p fo,rs):=by unfold gZ;rw[hp,aA rfl]
  obtain⟨fo',se',x,rs',e,h',hx⟩:=found_eq ix1 p d k1 b m z h hp
  cases e
  exact⟨_,e1,_,_,_,_,rfl,h,hx,hS,fun _ h=>h,fun _=>e2⟩
 |
  false=>
  cases hder:bz (.int .i64) .bool p.1 (bU m) with
  |
   true=>
   obtain⟨r,er,fo',se',x,rs',rfl,h',hx,hS',abU,hy⟩:=hd
   have hl:=h'.len
   have hl2:=H.h1.len
   have hm1:fo'.length+1≤aE:=by omega
   have hg:fo'.length≤(bE bu p x fo').length:=mset_ge (kt:=bu)
   have h1:=h'.se
   have h2:=h'.rs
   refine⟨(w1,ix1,d,k1,b,m,z,bE bu p x fo',se',x,rs'),?_,_,_,_,_,rfl,h'.put hU hx (by omega) (by omega),hx,hS',abU,fun hG=>?_⟩
   ·unfold gZ
    rw[hp,aC (by decide),hder,aA rfl,er,aH,aI]
    dsimp only
    rw[aA hm1]
   ·unfold gZ
    rw[hp,aC (by decide),hder,aA rfl,hy hG,aH,aI]
    dsimp only
    rw[aA hm1]
  |
   false=>
   obtain⟨L,y,x,n,se',rs',e1,e2,e3,hl,hr⟩:=lookR H.h1 p d k1 b m z h hp hU hP
   have e1':=about_u H.h1 p d k1 b m z fo se rs
   rw[e1'] at e1
   have eL:aboutL w1.1.1 ix1 p=L:=by
    have e:=iL e1
    simp only[ff,true_and,and_true] at e
    exact e
   subst eL
   have e4:pJ n=some n:=rfl
   obtain⟨fo2,se2,x2,rs2,er,h',hx⟩:=hr
   cases er
   have hfr:n.length≤aE∧iY n se rs=some (se',rs'):=by
    unfold gW at e3
    split at e3
    ·rename_i hn
     refine⟨hn,?_⟩
     cases hq:iY n se rs with
     |none=>rw[hq] at e3;cases e3
     |some q=>rw[hq] at e3;cases e3;rfl
    ·cases e3
   obtain⟨s1,s2,s3⟩:=fresh_si n se rs se' rs' hfr.2 hS
   refine⟨_,?_,_,_,_,_,rfl,h',hx,s1,s2,fun hG=>?_⟩
   ·unfold gZ
    rw[hp,aC (by decide),hder,aC (by decide),e1',aH]
    dsimp only
    rw[eI,eI,eI,eI,e2,aH]
    dsimp only
    rw[e4,aH,e3,aH,aI]
    dsimp only
    rw[aA hl]
   ·have e5:=H.rd p (y,x,n) e2 fun q hq=>hG q (s3 q hq)
    have e6:gW rs n w2 ix2 d k2 b m z fo se=some (n,w2,ix2,d,k2,b,m,z,fo,se',rs'):=by
     unfold gW
     rw[aA hfr.1,hfr.2]
     rfl
    unfold gZ
    rw[hp,aC (by decide),hder,aC (by decide),about_u H.h2 p d k2 b m z fo se rs,aH]
    dsimp only
    rw[eI,eI,eI,eI,e5,aH]
    dsimp only
    rw[e4,aH,e6,aH,aI]
    dsimp only
    rw[aA hl]
def CP2(w1:bO)(ix1:Ix)(k1:Int)(w2:bO)(ix2:Ix)(k2:Int)(PS:Ze)(U:List Pl)(d:Int)(Gd:ko→Prop)(b:Bool)(m:DM)(z:Unit)(u:cQ)(p:Int)(l:Zx)(rs:Zh)(r:Bool×cQ×Int×bO×Ix×Int×Int×Bool×DM×Unit×FM×SM×List qi×List ko)(y2:Option (Bool×cQ×Int×bO×Ix×Int×Int×Bool×DM×Unit×FM×SM×List qi×List ko)):Prop:=
 ∃y fo' se' l' rs',r=(y,u,p,w1,ix1,d,k1,b,m,z,fo',se',l',rs')∧FI w1.1.1 PS U fo' se' rs'∧(y=false→l'=l)∧(y=true→LI w1.1.1 PS u l'∧l'.length=u.2.2.1.length)∧SI se' rs'∧(∀q∈rs,q∈rs')∧((∀q∈rs',Gd q)→y2=some (y,u,p,w2,ix2,d,k2,b,m,z,fo',se',l',rs'))
theorem deriveK2{w1:bO}{ix1:Ix}{k1:Int}{w2:bO}{ix2:Ix}{k2:Int}{lo PS:Ze}{U:List Pl}{d:Int}{Gd:ko→Prop}(H:T2 w1 ix1 k1 w2 ix2 k2 lo PS U d Gd)(q0:Q0)(q1:Q1)(r0:Q0)(r1:Q1)(p:Pl)(b:Bool)(m:DM)(z:Unit){fo:FM}{se:SM}{rs:Zh}(h:FI w1.1.1 PS U fo se rs)(hS:SI se rs)(hP:p.2.1∈PS)
 (hq:∀u∈w1.1.1.2.2.2.1,u.2.1=p.1→∀fo se rs,FI w1.1.1 PS U fo se rs→SI se rs→W (q1 (u,p.2.1,[],w1,ix1,d,k1,b,m,z,fo,se,rs,())) fun r=>CP2 w1 ix1 k1 w2 ix2 k2 PS U d Gd b m z u p.2.1 [] rs r (r1 (u,p.2.1,[],w2,ix2,d,k2,b,m,z,fo,se,rs,()))):
 W (lr q0 q1 p w1 ix1 d k1 b m z fo se rs) fun r=>PL2 w1 ix1 k1 w2 ix2 k2 PS U d Gd b m z p rs r (lr r0 r1 p w2 ix2 d k2 b m z fo se rs):=by
 have hB:=hB
 have hr:=H.h1.cg.sw.rules
 have hd1:lr q0 q1 p w1 ix1 d k1 b m z fo se rs=aG (U:=bO×Ix×Int×Int×Bool×DM×Unit×FM×SM×Int×Int×Int×Int×Bool×(Zh)) (fL q0 q1 (Int.toNat (List.length w1.1.1.2.2.2.1:Int)+1) (w1.1.1.2.2.2.1,(List.length w1.1.1.2.2.2.1:Int),0,w1,ix1,d,k1,b,m,z,fo,se,p,0,0,0,0,false,rs)) fun x=>some (x.1,x.2.1,x.2.2.1,x.2.2.2.1,x.2.2.2.2.1,x.2.2.2.2.2.1,x.2.2.2.2.2.2.1,x.2.2.2.2.2.2.2.1,x.2.2.2.2.2.2.2.2.1,((x.2.2.2.2.2.2.2.2.2.1,(x.2.2.2.2.2.2.2.2.2.2.1,(x.2.2.2.2.2.2.2.2.2.2.2.1,(([]:Ze),())))),(x.2.2.2.2.2.2.2.2.2.2.2.2.1,(([]:Zx),(x.2.2.2.2.2.2.2.2.2.2.2.2.2.1,())))),x.2.2.2.2.2.2.2.2.2.2.2.2.2.2):=rfl
 have hd2:lr r0 r1 p w2 ix2 d k2 b m z fo se rs=aG (U:=bO×Ix×Int×Int×Bool×DM×Unit×FM×SM×Int×Int×Int×Int×Bool×(Zh)) (fL r0 r1 (Int.toNat (List.length w1.1.1.2.2.2.1:Int)+1) (w1.1.1.2.2.2.1,(List.length w1.1.1.2.2.2.1:Int),0,w2,ix2,d,k2,b,m,z,fo,se,p,0,0,0,0,false,rs)) fun x=>some (x.1,x.2.1,x.2.2.1,x.2.2.2.1,x.2.2.2.2.1,x.2.2.2.2.2.1,x.2.2.2.2.2.2.1,x.2.2.2.2.2.2.2.1,x.2.2.2.2.2.2.2.2.1,((x.2.2.2.2.2.2.2.2.2.1,(x.2.2.2.2.2.2.2.2.2.2.1,(x.2.2.2.2.2.2.2.2.2.2.2.1,(([]:Ze),())))),(x.2.2.2.2.2.2.2.2.2.2.2.2.1,(([]:Zx),(x.2.2.2.2.2.2.2.2.2.2.2.2.2.1,())))),x.2.2.2.2.2.2.2.2.2.2.2.2.2.2):=by
  unfold lr
  rw[H.tb]
 rw[hd1,hd2]
 clear hd1 hd2
 have key:=z8 (L1:=fL q0 q1) rfl (L2:=fL r0 r1) rfl
  (fun(s:FM×SM×List ko)(c:cW (bO×Ix×Int×Int×Bool×DM×Unit×FM×SM×Int×Int×Int×Int×Bool×(Zh)) (bO×Ix×Int×Int×Bool×DM×Unit×FM×SM×qj×List ko))(y:Option (cW (bO×Ix×Int×Int×Bool×DM×Unit×FM×SM×Int×Int×Int×Int×Bool×(Zh)) (bO×Ix×Int×Int×Bool×DM×Unit×FM×SM×qj×List ko)))=>
   (∃fo' se' rs',c= .brk (w1,ix1,d,k1,b,m,z,fo',se',0,0,0,0,false,rs')∧FI w1.1.1 PS U fo' se' rs'∧SI se' rs'∧(∀q∈s.2.2,q∈rs')∧((∀q∈rs',Gd q)→y=some (.brk (w2,ix2,d,k2,b,m,z,fo',se',0,0,0,0,false,rs'))))∨
   (∃fo' se' x rs',c= .ret (w1,ix1,d,k1,b,m,z,fo',se',x,rs')∧FI w1.1.1 PS U fo' se' rs'∧(x.2.2.2.1=true→FV w1.1.1 PS x.1 p.1)∧SI se' rs'∧(∀q∈s.2.2,q∈rs')∧((∀q∈rs',Gd q)→y=some (.ret (w2,ix2,d,k2,b,m,z,fo',se',x,rs')))))
  w1.1.1.2.2.2.1.length (fun c(s:FM×SM×List ko)=>(w1.1.1.2.2.2.1,(w1.1.1.2.2.2.1.length:Int),(c:Int),w1,ix1,d,k1,b,m,z,s.1,s.2.1,p,0,0,0,0,false,s.2.2)) (fun c(s:FM×SM×List ko)=>(w1.1.1.2.2.2.1,(w1.1.1.2.2.2.1.length:Int),(c:Int),w2,ix2,d,k2,b,m,z,s.1,s.2.1,p,0,0,0,0,false,s.2.2)) (fun _ s=>FI w1.1.1 PS U s.1 s.2.1 s.2.2∧SI s.2.1 s.2.2) ?step ?stop (Int.toNat (List.length w1.1.1.2.2.2.1:Int)+1) 0 (fo,se,rs) (by omega) (by omega) ⟨h,hS⟩
 case step=>
  rintro rec1 rec2 c ⟨fo,se,rs⟩ hc ⟨hI,hS⟩ kk
  dsimp only at hI hS ⊢
  have hw2:=ku c (by omega)
  have hc1:(c:Int)<(w1.1.1.2.2.2.1.length:Int):=by omega
  have hm:=dM (t:=bD) (l:=w1.1.1.2.2.2.1) (dD c) hc1
  rw[cI hc1,dQ c,aA hc1,cI hc1,dQ c,aA hc1]
  generalize nth bD w1.1.1.2.2.2.1 (c:Int)=u at hm ⊢
  by_cases hu:u.2.1=p.1
  ·have hne:¬(!decide (u.2.1=p.1))=true:=by simp[hu]
   rw[aC hne,aC hne]
   obtain⟨r,er,y,fo',se',l',rs',rfl,h',hy0,hy1,hS',abU,hy⟩:=hq u hm hu fo se rs hI hS
   have ea1:nc q0 q1 u p.2.1 w1 ix1 d k1 b m z fo se rs=(if(!y)=true then(some (false,w1,ix1,d,k1,b,m,z,fo',se',([]:Zx),rs')) else(some (true,w1,ix1,d,k1,b,m,z,fo',se',l',rs'))):=by
    unfold nc;rw[er];rfl
   have ea2:(∀q∈rs',Gd q)→nc r0 r1 u p.2.1 w2 ix2 d k2 b m z fo se rs=(if(!y)=true then(some (false,w2,ix2,d,k2,b,m,z,fo',se',([]:Zx),rs')) else(some (true,w2,ix2,d,k2,b,m,z,fo',se',l',rs'))):=fun hG=>by
    unfold nc;rw[hy hG];rfl
   rw[ea1]
   cases y with
   |
    false=>
    rw[aA (show(!false)=true from rfl),aH]
    dsimp only
    rw[aC (by decide),hw2]
    refine(kk (fo',se',rs') ⟨h',hS'⟩).mono fun cc hcc=>?_
    rcases hcc with⟨fo2,se2,rs2,e,g1,g2,g3,g4⟩|⟨fo2,se2,x,rs2,e,g1,g0,g2,g3,g4⟩
    ·refine Or.inl ⟨fo2,se2,rs2,e,g1,g2,fun q hq=>g3 q (abU q hq),fun hG=>?_⟩
     rw[ea2 fun q hq=>hG q (g3 q hq),aA (show(!false)=true from rfl),aH]
     dsimp only
     rw[aC (by decide)]
     exact g4 hG
    ·refine Or.inr ⟨fo2,se2,x,rs2,e,g1,g0,g2,fun q hq=>g3 q (abU q hq),fun hG=>?_⟩
     rw[ea2 fun q hq=>hG q (g3 q hq),aA (show(!false)=true from rfl),aH]
     dsimp only
     rw[aC (by decide)]
     exact g4 hG
   |
    true=>
    obtain⟨hLI,hlen⟩:=hy1 rfl
    have hR:=H.h1.cg.tg.rules u hm
    have hf:=H.h1.cg.tg.fields _ (dM (t:=bJ) (l:=w1.1.1.2.2.1) hR.h0 hR.h1)
    have hs:=(H.h1.cg.sw.rl u hm).2.2
    obtain⟨x,hx,hbu⟩:=build_u (s:=w1.1.1) (by omega) hR hLI hlen hf (H.h1.fl _ hR.h0 hR.h1) p.2.1 hP H.h1.zero (H.h1.consts u hm)
    rw[aC (show¬(!true)=true by decide),aH]
    dsimp only
    rw[aA rfl,hbu w1 rfl ix1 d k1 b m z fo' se' rs',aH]
    refine⟨_,rfl,Or.inr ⟨fo',se',_,rs',rfl,h',fun _=>hu▸hx,hS',abU,fun hG=>?_⟩⟩
    rw[ea2 hG,aC (show¬(!true)=true by decide),aH]
    dsimp only
    rw[aA rfl,hbu w2 (by rw[H.tb]) ix2 d k2 b m z fo' se' rs']
    rfl
  ·have hne:(!decide (u.2.1=p.1))=true:=by simp[hu]
   rw[aA hne,aA hne,hw2]
   exact kk (fo,se,rs) ⟨hI,hS⟩
 case stop=>
  rintro rec1 rec2 ⟨fo,se,rs⟩ ⟨hI,hS⟩
  dsimp only at hI hS ⊢
  have hne:¬decide ((w1.1.1.2.2.2.1.length:Int)<(w1.1.1.2.2.2.1.length:Int))=true:=by simp only[ik];omega
  rw[aC hne,aC hne]
  exact⟨_,rfl,Or.inl ⟨fo,se,rs,rfl,hI,hS,fun _ h=>h,fun _=>rfl⟩⟩
 obtain⟨cc,ec,hcc⟩:=key
 rcases hcc with⟨fo2,se2,rs2,rfl,g1,g2,g3,g4⟩|⟨fo2,se2,x,rs2,rfl,g1,g0,g2,g3,g4⟩
 ·refine⟨_,by rw[show fL q0 q1 (Int.toNat (List.length w1.1.1.2.2.2.1:Int)+1) (w1.1.1.2.2.2.1,(List.length w1.1.1.2.2.2.1:Int),0,w1,ix1,d,k1,b,m,z,fo,se,p,0,0,0,0,false,rs)=_ from ec,aI],fo2,se2,_,rs2,rfl,g1,fun h=>(by cases h),g2,g3,fun hG=>?_⟩
  rw[show fL r0 r1 (Int.toNat (List.length w1.1.1.2.2.2.1:Int)+1) (w1.1.1.2.2.2.1,(List.length w1.1.1.2.2.2.1:Int),0,w2,ix2,d,k2,b,m,z,fo,se,p,0,0,0,0,false,rs)=_ from g4 hG,aI]
 ·refine⟨_,by rw[show fL q0 q1 (Int.toNat (List.length w1.1.1.2.2.2.1:Int)+1) (w1.1.1.2.2.2.1,(List.length w1.1.1.2.2.2.1:Int),0,w1,ix1,d,k1,b,m,z,fo,se,p,0,0,0,0,false,rs)=_ from ec,dP],fo2,se2,x,rs2,rfl,g1,g0,g2,g3,fun hG=>?_⟩
  rw[show fL r0 r1 (Int.toNat (List.length w1.1.1.2.2.2.1:Int)+1) (w1.1.1.2.2.2.1,(List.length w1.1.1.2.2.2.1:Int),0,w2,ix2,d,k2,b,m,z,fo,se,p,0,0,0,0,false,rs)=_ from g4 hG,dP]
abbrev CF:cQ×Int×bO×Ix×Int×Int×Bool×DM×Unit×FM×SM×(Zx)×(Zh)→Option (Bool×cQ×Int×bO×Ix×Int×Int×Bool×DM×Unit×FM×SM×List qi×List ko):=fun x=>some (false,x.1,x.2.1,x.2.2.1,x.2.2.2.1,x.2.2.2.2.1,x.2.2.2.2.2.1,x.2.2.2.2.2.2.1,x.2.2.2.2.2.2.2.1,x.2.2.2.2.2.2.2.2.1,x.2.2.2.2.2.2.2.2.2.1,x.2.2.2.2.2.2.2.2.2.2.1,x.2.2.2.2.2.2.2.2.2.2.2.1,x.2.2.2.2.2.2.2.2.2.2.2.2)
theorem choose_eq(q0:Q0)(q1:Q1)(u:cQ)(p:Int)(l:Zx)(w:bO)(ix:Ix)(d k:Int)(b:Bool)(m:DM)(z:Unit)(fo:FM)(se:SM)(rs:Zh)(hlt:l.length<u.2.2.1.length)(o:Int)
 (ho:((nth aL u.2.2.1 (l.length:Int)).2.2.2.1.2.2.1= -1∧o=p)∨((nth aL u.2.2.1 (l.length:Int)).2.2.2.1.2.2.1≠-1∧0≤(nth aL u.2.2.1 (l.length:Int)).2.2.2.1.2.2.1∧(nth aL u.2.2.1 (l.length:Int)).2.2.2.1.2.2.1<(l.length:Int)∧0≤(nth aL u.2.2.1 (l.length:Int)).2.2.2.1.2.2.2.1∧(nth aL u.2.2.1 (l.length:Int)).2.2.2.1.2.2.2.1<((nth gz l (nth aL u.2.2.1 (l.length:Int)).2.2.2.1.2.2.1).2.2.2.1.length:Int)∧o=nth (.int .i64) (nth gz l (nth aL u.2.2.1 (l.length:Int)).2.2.2.1.2.2.1).2.2.2.1 (nth aL u.2.2.1 (l.length:Int)).2.2.2.1.2.2.2.1)):
 kf q0 q1 u p l w ix d k b m z fo se rs=aG (U:=cQ×Int×bO×Ix×Int×Int×Bool×DM×Unit×FM×SM×(Zx)×(Zh)) (fF q0 q1 (Int.toNat (((if bz (.int .i64) .bool (nth aL u.2.2.1 (l.length:Int)).2.2.1 (bU m)=true then 1 else 4:Nat)):Int)+1) (o,(((if bz (.int .i64) .bool (nth aL u.2.2.1 (l.length:Int)).2.2.1 (bU m)=true then 1 else 4:Nat)):Int),0,u,p,w,ix,d,k,b,m,z,fo,se,nth aL u.2.2.1 (l.length:Int),l,rs)) CF:=by
 unfold kf
 rw[aC (show¬decide ((l.length:Int)=(u.2.2.1.length:Int))=true by simp;omega),dQ _,aA (show(l.length:Int)<(u.2.2.1.length:Int) by omega)]
 generalize nth aL u.2.2.1 (l.length:Int)=v at ho
 rcases ho with⟨hv,rfl⟩|⟨hv,a1,a2,a3,a4,rfl⟩
 ·rw[aC (show¬(!decide (v.2.2.2.1.2.2.1=(-1:Int)))=true by simp[hv]),aI]
  dsimp only
  by_cases hm:bz (.int .i64) .bool v.2.2.1 (bU m)=true
  ·rw[aA hm,aA hm,aI];rfl
  ·rw[aC hm,aC hm,aI];rfl
 ·rw[aA (show(!decide (v.2.2.2.1.2.2.1=(-1:Int)))=true by simpa using hv),aA a1,aA a2,aA a3,aA a4,aI]
  dsimp only
  by_cases hm:bz (.int .i64) .bool v.2.2.1 (bU m)=true
  ·rw[aA hm,aA hm,aI];rfl
  ·rw[aC hm,aC hm,aI];rfl
theorem chooseK2{w1:bO}{ix1:Ix}{k1:Int}{w2:bO}{ix2:Ix}{k2:Int}{lo PS:Ze}{U:List Pl}{d:Int}{Gd:ko→Prop}(H:T2 w1 ix1 k1 w2 ix2 k2 lo PS U d Gd)(q0:Q0)(q1:Q1)(r0:Q0)(r1:Q1)(u:cQ)(hu:u∈w1.1.1.2.2.2.1)(p:Int)(l:Zx)(b:Bool)(m:DM)(z:Unit){fo:FM}{se:SM}{rs:Zh}(h:FI w1.1.1 PS U fo se rs)(hS:SI se rs)(hP:p∈PS)(hL:LI w1.1.1 PS u l)
 (hq0:∀y:Pl,y∈U→y.2.1∈PS→l.length<u.2.2.1.length→y.1=(nth aL u.2.2.1 (l.length:Int)).2.2.1→∀fo se rs,FI w1.1.1 PS U fo se rs→SI se rs→W (q0 (y,w1,ix1,d,k1,b,m,z,fo,se,rs,())) fun r=>PL2 w1 ix1 k1 w2 ix2 k2 PS U d Gd b m z y rs r (r0 (y,w2,ix2,d,k2,b,m,z,fo,se,rs,())))
 (hq1:∀l',LI w1.1.1 PS u l'→l'.length=l.length+1→∀fo se rs,FI w1.1.1 PS U fo se rs→SI se rs→W (q1 (u,p,l',w1,ix1,d,k1,b,m,z,fo,se,rs,())) fun r=>CP2 w1 ix1 k1 w2 ix2 k2 PS U d Gd b m z u p l' rs r (r1 (u,p,l',w2,ix2,d,k2,b,m,z,fo,se,rs,()))):
 W (kf q0 q1 u p l w1 ix1 d k1 b m z fo se rs) fun r=>CP2 w1 ix1 k1 w2 ix2 k2 PS U d Gd b m z u p l rs r (kf r0 r1 u p l w2 ix2 d k2 b m z fo se rs):=by
 have hB:=hB
 have hR:RK (cR w1.1.1 u):=H.h1.cg.tg.rules u hu
 by_cases hl:l.length=u.2.2.1.length
 ·obtain⟨y,hy⟩:=hold_u H.h1.cg.sw.nb (H.h1.cg.sw.rl u hu).2.1 hR hL hl
  have hdl:decide ((l.length:Int)=(u.2.2.1.length:Int))=true:=cC (by omega)
  refine⟨(y,u,p,w1,ix1,d,k1,b,m,z,fo,se,l,rs),?_,y,_,_,_,_,rfl,h,fun _=>rfl,fun _=>⟨hL,hl⟩,hS,fun _ h=>h,fun _=>?_⟩
  ·unfold kf
   rw[aA hdl,hy w1 rfl ix1 d k1 b m z fo se rs];rfl
  ·unfold kf
   rw[aA hdl,hy w2 (by rw[H.tb]) ix2 d k2 b m z fo se rs];rfl
 ·have hll:=hL.len
  have hlt:l.length<u.2.2.1.length:=by omega
  have hn3:u.2.2.1.length≤3:=hR.n3
  have hF:FO (cR w1.1.1 u) l.length:=hR.fo l.length hlt
  have hs0:0≤(nth aL u.2.2.1 (l.length:Int)).2.2.1:=hF.s0
  have hs1:(nth aL u.2.2.1 (l.length:Int)).2.2.1<(w1.1.1.2.2.1.length:Int):=hF.s1
  have hpush:∀x:qi,FV w1.1.1 PS x (nth aL u.2.2.1 (l.length:Int)).2.2.1→LI w1.1.1 PS u (l++[x]):=fun x hx=>hL.push hlt hx
  have hex:∃o,o∈PS∧(((nth aL u.2.2.1 (l.length:Int)).2.2.2.1.2.2.1= -1∧o=p)∨((nth aL u.2.2.1 (l.length:Int)).2.2.2.1.2.2.1≠-1∧0≤(nth aL u.2.2.1 (l.length:Int)).2.2.2.1.2.2.1∧(nth aL u.2.2.1 (l.length:Int)).2.2.2.1.2.2.1<(l.length:Int)∧0≤(nth aL u.2.2.1 (l.length:Int)).2.2.2.1.2.2.2.1∧(nth aL u.2.2.1 (l.length:Int)).2.2.2.1.2.2.2.1<((nth gz l (nth aL u.2.2.1 (l.length:Int)).2.2.2.1.2.2.1).2.2.2.1.length:Int)∧o=nth (.int .i64) (nth gz l (nth aL u.2.2.1 (l.length:Int)).2.2.2.1.2.2.1).2.2.2.1 (nth aL u.2.2.1 (l.length:Int)).2.2.2.1.2.2.2.1)):=by
   by_cases hvar:(nth aL u.2.2.1 (l.length:Int)).2.2.2.1.2.2.1= -1
   ·exact⟨p,hP,Or.inl ⟨hvar,rfl⟩⟩
   ·rcases hF.of with h1|h1
    ·exact absurd h1 hvar
    ·obtain⟨a1,a2,a3,a4,a5⟩:=values_at hL (jW _) h1
     exact⟨_,a5,Or.inr ⟨hvar,a1,a2,a3,a4,rfl⟩⟩
  obtain⟨o,ho,hoc⟩:=hex
  rw[choose_eq q0 q1 u p l w1 ix1 d k1 b m z fo se rs hlt o hoc,choose_eq r0 r1 u p l w2 ix2 d k2 b m z fo se rs hlt o hoc]
  have hn4:(if bz (.int .i64) .bool (nth aL u.2.2.1 (l.length:Int)).2.2.1 (bU m)=true then 1 else 4:Nat)≤4:=by split<;>omega
  generalize (if bz (.int .i64) .bool (nth aL u.2.2.1 (l.length:Int)).2.2.1 (bU m)=true then 1 else 4:Nat)=n at hn4
  generalize nth aL u.2.2.1 (l.length:Int)=v at hs0 hs1 hpush hq0
  clear hoc hF
  have key:=z8 (L1:=fF q0 q1) rfl (L2:=fF r0 r1) rfl
   (fun(s:FM×SM×List ko)(c:cW (cQ×Int×bO×Ix×Int×Int×Bool×DM×Unit×FM×SM×(Zx)×(Zh)) (Bool×cQ×Int×bO×Ix×Int×Int×Bool×DM×Unit×FM×SM×List qi×List ko))(y:Option (cW (cQ×Int×bO×Ix×Int×Int×Bool×DM×Unit×FM×SM×(Zx)×(Zh)) (Bool×cQ×Int×bO×Ix×Int×Int×Bool×DM×Unit×FM×SM×List qi×List ko)))=>
    (∃fo' se' rs',c= .brk (u,p,w1,ix1,d,k1,b,m,z,fo',se',l,rs')∧FI w1.1.1 PS U fo' se' rs'∧SI se' rs'∧(∀q∈s.2.2,q∈rs')∧((∀q∈rs',Gd q)→y=some (.brk (u,p,w2,ix2,d,k2,b,m,z,fo',se',l,rs'))))∨
    (∃fo' se' l' rs',c= .ret (true,u,p,w1,ix1,d,k1,b,m,z,fo',se',l',rs')∧FI w1.1.1 PS U fo' se' rs'∧(LI w1.1.1 PS u l'∧l'.length=u.2.2.1.length)∧SI se' rs'∧(∀q∈s.2.2,q∈rs')∧((∀q∈rs',Gd q)→y=some (.ret (true,u,p,w2,ix2,d,k2,b,m,z,fo',se',l',rs')))))
   n (fun c(s:FM×SM×List ko)=>(o,(n:Int),(c:Int),u,p,w1,ix1,d,k1,b,m,z,s.1,s.2.1,v,l,s.2.2)) (fun c(s:FM×SM×List ko)=>(o,(n:Int),(c:Int),u,p,w2,ix2,d,k2,b,m,z,s.1,s.2.1,v,l,s.2.2)) (fun _ s=>FI w1.1.1 PS U s.1 s.2.1 s.2.2∧SI s.2.1 s.2.2) ?step ?stop (Int.toNat (n:Int)+1) 0 (fo,se,rs) (by omega) (by omega) ⟨h,hS⟩
  case step=>
   rintro rec1 rec2 c ⟨fo,se,rs⟩ hc ⟨hI,hS⟩ kk
   dsimp only at hI hS ⊢
   have hw2:=ku c (by omega)
   have hcn:decide ((c:Int)<(n:Int))=true:=cC (by omega)
   rw[aA hcn,aA hcn]
   obtain⟨r,er,fo',se',x,rs',rfl,h',hx,hS',abU,hy⟩:=hq0 (v.2.2.1,(o,((c:Int),()))) (H.h1.pl _ _ _ hs0 hs1 ho (dD c) (by omega)) ho hlt rfl fo se rs hI hS
   rw[er,aH]
   dsimp only
   have hl48:(l.length+List.length [x.1])*48≤aE:=by rw[cS];omega
   cases hk:x.2.2.2.1 with
   |
    false=>
    rw[aC (by decide),hw2]
    refine(kk (fo',se',rs') ⟨h',hS'⟩).mono fun cc hcc=>?_
    rcases hcc with⟨fo2,se2,rs2,e,g1,g2,g3,g4⟩|⟨fo2,se2,l2,rs2,e,g1,g0,g2,g3,g4⟩
    ·refine Or.inl ⟨fo2,se2,rs2,e,g1,g2,fun q hq=>g3 q (abU q hq),fun hG=>?_⟩
     rw[hy fun q hq=>hG q (g3 q hq),aH]
     dsimp only
     rw[hk,aC (by decide)]
     exact g4 hG
    ·refine Or.inr ⟨fo2,se2,l2,rs2,e,g1,g0,g2,fun q hq=>g3 q (abU q hq),fun hG=>?_⟩
     rw[hy fun q hq=>hG q (g3 q hq),aH]
     dsimp only
     rw[hk,aC (by decide)]
     exact g4 hG
   |
    true=>
    rw[aA rfl,aA hl48]
    obtain⟨r,er2,y,fo2,se2,l2,rs2,rfl,h2,hy0,hy1,hS2,hsub2,hyy⟩:=hq1 (l++[x.1]) (hpush x.1 (hx hk)) (by rw[cN,cS]) fo' se' rs' h' hS'
    rw[er2,aH]
    dsimp only
    cases y with
    |
     true=>
     refine⟨_,rfl,Or.inr ⟨fo2,se2,l2,rs2,rfl,h2,hy1 rfl,hS2,fun q hq=>hsub2 q (abU q hq),fun hG=>?_⟩⟩
     rw[hy fun q hq=>hG q (hsub2 q hq),aH]
     dsimp only
     rw[hk,aA rfl,aA hl48,hyy hG,aH]
     rfl
    |
     false=>
     have e:=hy0 rfl
     subst e
     have e1:aZ (((l++[x.1]).length:Int) -(1:Int))=(l.length:Int):=by
      rw[cN,cS]
      rw[fu (by omega) (by omega)]
      omega
     have e3:(l.length:Int)≤((l++[x.1]).length:Int):=by rw[cN,cS];omega
     rw[aC (by decide),e1,dQ _,aA e3,dJ,Nat.sub_zero,List.take_left,hw2]
     refine(kk (fo2,se2,rs2) ⟨h2,hS2⟩).mono fun cc hcc=>?_
     rcases hcc with⟨fo3,se3,rs3,e,g1,g2,g3,g4⟩|⟨fo3,se3,l3,rs3,e,g1,g0,g2,g3,g4⟩
     ·refine Or.inl ⟨fo3,se3,rs3,e,g1,g2,fun q hq=>g3 q (hsub2 q (abU q hq)),fun hG=>?_⟩
      rw[hy fun q hq=>hG q (g3 q (hsub2 q hq)),aH]
      dsimp only
      rw[hk,aA rfl,aA hl48,hyy fun q hq=>hG q (g3 q hq),aH]
      dsimp only
      rw[aC (by decide),e1,dQ _,aA e3,dJ,Nat.sub_zero,List.take_left]
      exact g4 hG
     ·refine Or.inr ⟨fo3,se3,l3,rs3,e,g1,g0,g2,fun q hq=>g3 q (hsub2 q (abU q hq)),fun hG=>?_⟩
      rw[hy fun q hq=>hG q (g3 q (hsub2 q hq)),aH]
      dsimp only
      rw[hk,aA rfl,aA hl48,hyy fun q hq=>hG q (g3 q hq),aH]
      dsimp only
      rw[aC (by decide),e1,dQ _,aA e3,dJ,Nat.sub_zero,List.take_left]
      exact g4 hG
  case stop=>
   rintro rec1 rec2 ⟨fo,se,rs⟩ ⟨hI,hS⟩
   dsimp only at hI hS ⊢
   have hne:¬decide ((n:Int)<(n:Int))=true:=by simp only[ik];omega
   rw[aC hne,aC hne]
   exact⟨_,rfl,Or.inl ⟨fo,se,rs,rfl,hI,hS,fun _ h=>h,fun _=>rfl⟩⟩
  obtain⟨cc,ec,hcc⟩:=key
  have ec':fF q0 q1 (Int.toNat (n:Int)+1) (o,(n:Int),0,u,p,w1,ix1,d,k1,b,m,z,fo,se,v,l,rs)=some cc:=ec
  rw[ec']
  rcases hcc with⟨fo2,se2,rs2,rfl,g1,g2,g3,g4⟩|⟨fo2,se2,l2,rs2,rfl,g1,g0,g2,g3,g4⟩
  ·refine⟨_,rfl,false,fo2,se2,l,rs2,rfl,g1,fun _=>rfl,fun h=>(by cases h),g2,g3,fun hG=>?_⟩
   have g5:fF r0 r1 (Int.toNat (n:Int)+1) (o,(n:Int),0,u,p,w2,ix2,d,k2,b,m,z,fo,se,v,l,rs)=_:=g4 hG
   rw[g5]
   rfl
  ·refine⟨_,rfl,true,fo2,se2,l2,rs2,rfl,g1,fun h=>(by cases h),fun _=>g0,g2,g3,fun hG=>?_⟩
   have g5:fF r0 r1 (Int.toNat (n:Int)+1) (o,(n:Int),0,u,p,w2,ix2,d,k2,b,m,z,fo,se,v,l,rs)=_:=g4 hG
   rw[g5]
   rfl
theorem knot2{w1:bO}{ix1:Ix}{k1:Int}{w2:bO}{ix2:Ix}{k2:Int}{lo PS:Ze}{U:List Pl}{d:Int}{Gd:ko→Prop}(H:T2 w1 ix1 k1 w2 ix2 k2 lo PS U d Gd)(b:Bool)(m:DM)(z:Unit):∀n:Nat,
 (∀(p:Pl) fo se rs,FI w1.1.1 PS U fo se rs→SI se rs→p∈U→p.2.1∈PS→5*(lo.idxOf p.1+1)≤n→W ((fG n).1 (p,w1,ix1,d,k1,b,m,z,fo,se,rs,())) fun r=>PL2 w1 ix1 k1 w2 ix2 k2 PS U d Gd b m z p rs r ((fG n).1 (p,w2,ix2,d,k2,b,m,z,fo,se,rs,())))∧
 (∀u∈w1.1.1.2.2.2.1,∀(q:Int) l fo se rs,FI w1.1.1 PS U fo se rs→SI se rs→q∈PS→LI w1.1.1 PS u l→5*lo.idxOf u.2.1+(u.2.2.1.length -l.length)+1≤n→W ((fG n).2 (u,q,l,w1,ix1,d,k1,b,m,z,fo,se,rs,())) fun r=>CP2 w1 ix1 k1 w2 ix2 k2 PS U d Gd b m z u q l rs r ((fG n).2 (u,q,l,w2,ix2,d,k2,b,m,z,fo,se,rs,()))):=by
 intro n
 induction n with
 |zero=>exact⟨fun p fo se rs _ _ _ _ h=>by omega,fun u _ q l fo se rs _ _ _ _ h=>by omega⟩
 |
  succ n ih=>
  refine⟨fun p fo se rs h hS hU hP hn=>?_,fun u hu q l fo se rs h hS hP hL hn=>?_⟩
  ·exact lookK2 H (fG n).1 (fG n).2 (fG n).1 (fG n).2 p b m z h hS hU hP (deriveK2 H _ _ _ _ p b m z h hS hP fun u hu hup fo se rs h hS=>ih.2 u hu p.2.1 [] fo se rs h hS hP (LI.nil _ _ _) (by
    have hn3:u.2.2.1.length≤3:=(H.h1.cg.tg.rules u hu).n3
    rw[hup,jA]
    omega))
  ·exact chooseK2 H (fG n).1 (fG n).2 (fG n).1 (fG n).2 u hu q l b m z h hS hP hL (fun y hy hyP hlt hy1 fo se rs h hS=>ih.1 y fo se rs h hS hy hyP (by
    have hpre:=H.h1.cg.rk.pre u hu _ (dM (t:=aL) (l:=u.2.2.1) (dD l.length) (show(l.length:Int)<(u.2.2.1.length:Int) by omega))
    rw[←hy1] at hpre
    omega)) fun l' hL' hl' fo se rs h hS=>ih.2 u hu q l' fo se rs h hS hP hL' (by
    have:=hL'.len
    omega)
theorem look_eq{w:bO}{lo PS:Ze}{U:List Pl}{ix:Ix}(hw:WX w lo PS U ix)(d k:Int)(b:Bool)(m:DM)(z:Unit)(p:Pl){fo:FM}{se:SM}{rs:Zh}(h:FI w.1.1 PS U fo se rs)(hS:SI se rs)(hU:p∈U)(hP:p.2.1∈PS):
 W (kg p w ix d k b m z fo se rs) (PL w PS U ix d k b m z p):=by
 have hl:=hw.cg.rk.len
 have hm:=hw.cg.tg.many
 have hi:lo.idxOf p.1≤lo.length:=List.idxOf_le_length
 have hb:5*(lo.idxOf p.1+1)≤fJ:=by
  show _≤18446744073709551616
  omega
 obtain⟨r,er,fo',se',x,rs',hr,h',hx,_⟩:=(knot2 (Gd:=fun _=>True) (d:=d) ⟨hw,hw,rfl,fun _ _ hr _=>hr⟩ b m z fJ).1 p fo se rs h hS hU hP hb
 exact⟨r,er,fo',se',x,rs',hr,h',hx⟩
theorem lookk_eq{w:bO}{lo PS:Ze}{U:List Pl}{ix:Ix}(hw:WX w lo PS U ix)(d k:Int)(b:Bool)(m:DM)(z:Unit)(p:Pl){fo:FM}{se:SM}{rs:Zh}(h:FI w.1.1 PS U fo se rs)(hS:SI se rs)(hU:p∈U)(hP:p.2.1∈PS):
 W (jO p w ix d k b m z fo se rs) (PL w PS U ix d k b m z p):=by
 unfold jO
 cases hp:cJ bu p fo with
 |true=>rw[aA rfl];exact look_eq hw d k b m z p h hS hU hP
 |
  false=>
  rw[aC (by decide)]
  split
  ·exact look_eq hw d k b m z p h hS hU hP
  ·obtain⟨L,y,x,n,se',rs',e1,e2,e3,hl,hr⟩:=lookR hw p d k b m z h hp hU hP
   have e4:pJ n=some n:=rfl
   rw[e1,aH]
   dsimp only
   rw[e2,aH]
   dsimp only
   rw[e4,aH,e3,aH]
   dsimp only
   rw[aA hl]
   exact⟨_,rfl,hr⟩
structure FT(b:cY):Prop where
 schemas:b.2.2.1.length≤6
 rules:b.2.2.2.1.length≤4
 fields:∀x∈b.2.2.1,x.2.2.2.2.1.length≤6
 UC:∀x∈b.2.2.2.1,x.2.2.2.2.1.length≤6
theorem I1(b:cY)(h:SS b):∃r,f107 b=some r∧(r=true→FT b):=by
 have hB:=hB
 have h3:=h.schemas
 have h4:=h.rules
 have h5:=h.converts
 have h6:=h.purposes
 suffices hW:W (f107 b) fun r=>r=true→FT b by
  obtain⟨r,e,h⟩:=hW
  exact⟨r,e,h⟩
 have nb:∀n:Nat,n≤aE→n -0<fJ:=fun n hn=>by show _<18446744073709551616;omega
 have no:(false:Bool)=true→FT b:=fun h=>(by cases h)
 unfold f107
 refine bY.2 (W.ct (cG (L:=BL) rfl (CT (fun d=>d=b∧∀j(hj:j<b.2.2.1.length),b.2.2.1[j].2.2.2.2.1.length≤6) fun r=>r=false) b.2.2.1.length (fun c(_:Unit)=>((c:Int),b)) (fun c _=>∀j(hj:j<b.2.2.1.length),j<c→b.2.2.1[j].2.2.2.2.1.length≤6) ?step ?stop fJ 0 () (nb _ h3) (by omega) (fun j _ h=>absurd h (Nat.not_lt_zero _))) (fun d hd=>?_) fun r hr=>by subst hr;exact no)
 case step=>
  intro rec c _ hc hI kk
  dsimp only
  have hw2:=ku c (by omega)
  have hcc:(c:Int)<(b.2.2.1.length:Int):=by omega
  rw[cI hcc,dQ c,aA hcc,dg (t:=bJ) hc]
  by_cases a1:(6:Int)<(b.2.2.1[c].2.2.2.2.1.length:Int)
  ·rw[cI a1];exact⟨_,rfl,rfl⟩
  ·rw[aC (show¬decide ((6:Int)<(b.2.2.1[c].2.2.2.2.1.length:Int))=true by simpa using a1),dQ c,aA hcc,aH]
   split
   ·exact⟨_,rfl,rfl⟩
   ·rw[hw2]
    refine kk () fun j hj hjc=>?_
    by_cases e:j=c
    ·subst e;omega
    ·exact hI j hj (by omega)
 case stop=>
  intro rec _ hI
  dsimp only
  rw[gK (by omega)]
  exact⟨_,rfl,rfl,fun j hj=>hI j hj hj⟩
 obtain⟨rfl,hf⟩:=hd
 refine bY.2 (W.ct (cG (L:=BM) rfl (CT (fun d'=>d'=d∧∀j(hj:j<d.2.2.2.1.length),d.2.2.2.1[j].2.2.2.2.1.length≤6) fun r=>r=false) d.2.2.2.1.length (fun c(_:Unit)=>((c:Int),d)) (fun c _=>∀j(hj:j<d.2.2.2.1.length),j<c→d.2.2.2.1[j].2.2.2.2.1.length≤6) ?step ?stop fJ 0 () (nb _ h4) (by omega) (fun j _ h=>absurd h (Nat.not_lt_zero _))) (fun d' hd=>?_) fun r hr=>by subst hr;exact no)
 case step=>
  intro rec c _ hc hI kk
  dsimp only
  have hw2:=ku c (by omega)
  have hcc:(c:Int)<(d.2.2.2.1.length:Int):=by omega
  rw[cI hcc,dQ c,aA hcc,dg (t:=bD) hc]
  by_cases a1:(4:Int)<(d.2.2.2.1[c].2.2.1.length:Int)
  ·rw[cI a1];exact⟨_,rfl,rfl⟩
  ·rw[aC (show¬decide ((4:Int)<(d.2.2.2.1[c].2.2.1.length:Int))=true by simpa using a1),dQ c,aA hcc]
   by_cases a2:(5:Int)<(d.2.2.2.1[c].2.2.2.1.length:Int)
   ·rw[cI a2];exact⟨_,rfl,rfl⟩
   ·rw[aC (show¬decide ((5:Int)<(d.2.2.2.1[c].2.2.2.1.length:Int))=true by simpa using a2),dQ c,aA hcc,aH]
    by_cases a3:(6:Int)<(d.2.2.2.1[c].2.2.2.2.1.length:Int)
    ·rw[cI a3];exact⟨_,rfl,rfl⟩
    ·rw[aC (show¬decide ((6:Int)<(d.2.2.2.1[c].2.2.2.2.1.length:Int))=true by simpa using a3),hw2]
     refine kk () fun j hj hjc=>?_
     by_cases e:j=c
     ·subst e;omega
     ·exact hI j hj (by omega)
 case stop=>
  intro rec _ hI
  dsimp only
  rw[gK (by omega)]
  exact⟨_,rfl,rfl,fun j hj=>hI j hj hj⟩
 obtain⟨rfl,hs⟩:=hd
 refine bY.2 (W.ct (cG (L:=yg) rfl (CT (fun d=>d=d') fun r=>r=false) d'.2.2.2.2.1.length (fun c(_:Unit)=>((c:Int),d')) (fun _ _=>True) ?step ?stop fJ 0 () (nb _ h5) (by omega) trivial) (fun d hd=>?_) fun r hr=>by subst hr;exact no)
 case step=>
  intro rec c _ hc _ kk
  dsimp only
  have hw2:=ku c (by omega)
  have hcc:(c:Int)<(d'.2.2.2.2.1.length:Int):=by omega
  rw[cI hcc,dQ c,aA hcc]
  split
  ·exact⟨_,rfl,rfl⟩
  ·rw[hw2];exact kk () trivial
 case stop=>
  intro rec _ _
  dsimp only
  rw[gK (by omega)]
  exact⟨_,rfl,rfl⟩
 subst hd
 refine bY.2 (W.ct (cG (L:=yh) rfl (CT (fun d'=>d'=d) fun r=>r=false) d.2.2.2.2.2.1.length (fun c(_:Unit)=>((c:Int),d)) (fun _ _=>True) ?step ?stop fJ 0 () (nb _ h6) (by omega) trivial) (fun d' hd=>?_) fun r hr=>by subst hr;exact no)
 case step=>
  intro rec c _ hc _ kk
  dsimp only
  have hw2:=ku c (by omega)
  have hcc:(c:Int)<(d.2.2.2.2.2.1.length:Int):=by omega
  rw[cI hcc,dQ c,aA hcc]
  split
  ·exact⟨_,rfl,rfl⟩
  ·rw[hw2];exact kk () trivial
 case stop=>
  intro rec _ _
  dsimp only
  rw[gK (by omega)]
  exact⟨_,rfl,rfl⟩
 subst hd
 by_cases c1:(d'.1.length:Int)≤4
 ·rw[cI c1]
  by_cases c2:(d'.2.1.length:Int)≤5
  ·rw[cI c2]
   by_cases c3:(d'.2.2.1.length:Int)≤6
   ·rw[cI c3]
    by_cases c4:(d'.2.2.2.1.length:Int)≤4
    ·rw[cI c4]
     have fV:FT d':=⟨by omega,by omega,fun x hx=>by
      obtain⟨j,hj,rfl⟩:=iJ hx
      exact hf j hj,fun x hx=>by
      obtain⟨j,hj,rfl⟩:=iJ hx
      exact hs j hj⟩
     split
     ·exact⟨_,rfl,fun _=>fV⟩
     ·exact⟨_,rfl,no⟩
    ·rw[aC (show¬decide ((d'.2.2.2.1.length:Int)≤4)=true by simpa using c4)];exact⟨_,rfl,no⟩
   ·rw[aC (show¬decide ((d'.2.2.1.length:Int)≤6)=true by simpa using c3)];exact⟨_,rfl,no⟩
  ·rw[aC (show¬decide ((d'.2.1.length:Int)≤5)=true by simpa using c2)];exact⟨_,rfl,no⟩
 ·rw[aC (show¬decide ((d'.1.length:Int)≤4)=true by simpa using c1)];exact⟨_,rfl,no⟩
theorem I2(w:bO)(h:SS w.1.1):∃r,f38 w=some r∧(r=true→FT w.1.1):=by
 obtain⟨r,e,hr⟩:=I1 w.1.1 h
 unfold f38 f64
 rw[e,aH]
 cases r with
 |false=>exact⟨false,rfl,fun h=>(by cases h)⟩
 |
  true=>
  have ht:=hr rfl
  rw[aA rfl,aH,aH]
  split
  ·exact⟨_,rfl,fun _=>ht⟩
  ·exact⟨false,rfl,fun h=>(by cases h)⟩
theorem I3(w:bO)(h:SS w.1.1):∃r,f19 w=some r∧(r=true→FT w.1.1):=by
 have hB:=hB
 have h4:=h.rules
 suffices hW:W (f19 w) fun r=>r=true→FT w.1.1 by
  obtain⟨r,e,h⟩:=hW
  exact⟨r,e,h⟩
 have no:(false:Bool)=true→FT w.1.1:=fun h=>(by cases h)
 unfold f19
 refine bY.2 (W.ct (cG (L:=D5) rfl (CT (fun d=>d=(w,w.1.1)) fun r=>r=false) w.1.1.2.2.2.1.length (fun c(_:Unit)=>((c:Int),w,w.1.1)) (fun _ _=>True) ?step ?stop fJ 0 () (by show _<18446744073709551616;omega) (by omega) trivial) (fun d hd=>?_) fun r hr=>by subst hr;exact no)
 case step=>
  intro rec c _ hc _ kk
  dsimp only
  have hw2:=ku c (by omega)
  have hcc:(c:Int)<(w.1.1.2.2.2.1.length:Int):=by omega
  rw[cI hcc,dQ c,aA hcc]
  split
  ·exact⟨_,rfl,rfl⟩
  ·rw[hw2];exact kk () trivial
 case stop=>
  intro rec _ _
  dsimp only
  rw[gK (by omega)]
  exact⟨_,rfl,rfl⟩
 subst hd
 dsimp only
 obtain⟨r,e,hr⟩:=I2 w h
 rw[e,aH]
 cases r with
 |false=>exact⟨false,rfl,no⟩
 |
  true=>
  have ht:=hr rfl
  rw[aA rfl]
  split
  ·exact⟨_,rfl,fun _=>ht⟩
  ·exact⟨false,rfl,no⟩
structure FW(w:bO)(l:ZP):Prop where
 ft:FT w.1.1
 facts:w.2.1.length≤30
 XD:l.length≤6
 fields:∀p∈l,p.2.2.2.2.2.2.2.1.length≤16
theorem I4(w:bO)(l:ZP)(h:SS w.1.1)(hl:l.length≤aE):∃r,f7 w l=some r∧(r=true→FW w l):=by
 have hB:=hB
 suffices hW:W (f7 w l) fun r=>r=true→FW w l by
  obtain⟨r,e,h⟩:=hW
  exact⟨r,e,h⟩
 have no:(false:Bool)=true→FW w l:=fun h=>(by cases h)
 unfold f7
 refine bY.2 (W.ct (cG (L:=J4) rfl (CT (fun d=>d=(l,w)∧∀j(hj:j<l.length),l[j].2.2.2.2.2.2.2.1.length≤16) fun r=>r=false) l.length (fun c(_:Unit)=>(l,(c:Int),w)) (fun c _=>∀j(hj:j<l.length),j<c→l[j].2.2.2.2.2.2.2.1.length≤16) ?step ?stop fJ 0 () (by show _<18446744073709551616;omega) (by omega) (fun j _ h=>absurd h (Nat.not_lt_zero _))) (fun d hd=>?_) fun r hr=>by subst hr;exact no)
 case step=>
  intro rec c _ hc hI kk
  dsimp only
  have hw2:=ku c (by omega)
  have hcc:(c:Int)<(l.length:Int):=by omega
  rw[cI hcc,dQ c,aA hcc,dg (t:=ji) hc]
  by_cases a1:(16:Int)<(l[c].2.2.2.2.2.2.2.1.length:Int)
  ·rw[cI a1];exact⟨_,rfl,rfl⟩
  ·rw[aC (show¬decide ((16:Int)<(l[c].2.2.2.2.2.2.2.1.length:Int))=true by simpa using a1),dQ c,aA hcc,aH]
   split
   ·exact⟨_,rfl,rfl⟩
   ·rw[hw2]
    refine kk () fun j hj hjc=>?_
    by_cases e:j=c
    ·subst e;omega
    ·exact hI j hj (by omega)
 case stop=>
  intro rec _ hI
  dsimp only
  rw[gK (by omega)]
  exact⟨_,rfl,rfl,fun j hj=>hI j hj hj⟩
 obtain⟨rfl,hf⟩:=hd
 dsimp only
 obtain⟨r,e,hr⟩:=I3 w h
 rw[e,aH]
 cases r with
 |false=>exact⟨false,rfl,no⟩
 |
  true=>
  have ht:=hr rfl
  rw[aA rfl]
  by_cases c1:(w.2.1.length:Int)≤30
  ·rw[cI c1]
   by_cases c2:(l.length:Int)≤6
   ·rw[cC c2]
    exact⟨true,rfl,fun _=>⟨ht,by omega,by omega,fun p hp=>by
     obtain⟨j,hj,rfl⟩:=iJ hp
     exact hf j hj⟩⟩
   ·rw[dF c2];exact⟨false,rfl,no⟩
  ·rw[aC (show¬decide ((w.2.1.length:Int)≤30)=true by simpa using c1)];exact⟨false,rfl,no⟩
def keyF(k:ib)(l:Zk):Zk:=l.filter fun f=>aX bu f.1 k
theorem keyF_snoc(k:ib)(l:Zk)(x:fa):keyF k (l++[x])=keyF k l++if aX bu x.1 k=true then[x] else[]:=by
 unfold keyF
 rw[List.filter_append,lE]
 rfl
def derM(l:Zm):Zn:=l.foldl (fun m u=>bE (.int .i64) u.2.1 true m) []
theorem derM_snoc(l:Zm)(u:cQ):derM (l++[u])=bE (.int .i64) u.2.1 true (derM l):=by
 unfold derM
 rw[List.foldl_append]
 rfl
theorem derM_len':∀(l:Zm)(m:Zn),(l.foldl (fun m u=>bE (.int .i64) u.2.1 true m) m).length≤m.length+l.length
 |[],m=>cq _
 |
  u::l,m=>by
  have h:=derM_len' l (bE (.int .i64) u.2.1 true m)
  have h2:(bE (.int .i64) u.2.1 true m).length≤m.length+1:=dA (kt:=.int .i64)
  rw[List.foldl_cons,dE]
  omega
theorem derM_len(l:Zm):(derM l).length≤l.length:=by
 have h:=derM_len' l []
 rw[jA,cZ] at h
 exact h
theorem derM_get'(a:Int):∀(l:Zm)(m:Zn),bz (.int .i64) .bool a (l.foldl (fun m u=>bE (.int .i64) u.2.1 true m) m)=true→bz (.int .i64) .bool a m=true∨∃u∈l,u.2.1=a
 |[],m,h=>Or.inl h
 |
  u::l,m,h=>by
  rw[List.foldl_cons] at h
  rcases derM_get' a l _ h with h|⟨v,hv,e⟩
  ·by_cases e:a=u.2.1
   ·exact Or.inr ⟨u,cK ..,e.symm⟩
   ·rw[dB (kt:=.int .i64) (vt:=.bool) rfl e] at h
    exact Or.inl h
  ·exact Or.inr ⟨v,dr _ hv,e⟩
theorem derM_get(a:Int)(l:Zm)(h:bz (.int .i64) .bool a (derM l)=true):∃u∈l,u.2.1=a:=(derM_get' a l [] h).elim (fun h=>(by cases h)) id
theorem take_snoc{α:Type}(l:List α)(c:Nat)(h:c<l.length):l.take (c+1)=l.take c++[l[c]]:=List.take_succ_eq_append_getElem h
theorem newF_u(w:bO)(hf:w.2.1.length≤1000000)(hr:w.1.1.2.2.2.1.length≤aE)(d k:Int)(v:Bool):
 ∃ix:ZF,oi w d k v=some (w,some ix,d,k,v,some (derM w.1.1.2.2.2.1),(),[],[],[])∧∀key,bz bu (.slice 64 aP) key ix=keyF key w.2.1:=by
 have hB:=hB
 suffices hW:W (oi w d k v) fun r=>∃ix:ZF,r=(w,some ix,d,k,v,some (derM w.1.1.2.2.2.1),(),[],[],[])∧∀key,bz bu (.slice 64 aP) key ix=keyF key w.2.1 by
  obtain⟨r,e,ix,rfl,h⟩:=hW
  exact⟨ix,e,h⟩
 unfold oi
 refine bY.2 (W.ct (cG (L:=vF) rfl (CT (fun r=>∃ix:ZF,r=(d,k,w,ix,([]:Zn),w,0,0,v)∧∀key,bz bu (.slice 64 aP) key ix=keyF key w.2.1) fun _=>False) w.2.1.length (fun c(ix:ZF)=>(d,k,w.2.1,(w.2.1.length:Int),(c:Int),w,ix,([]:Zn),w,0,0,v)) (fun c ix=>ix.length≤2*c∧∀key,bz bu (.slice 64 aP) key ix=keyF key (w.2.1.take c)) ?step ?stop _ 0 [] (by omega) (by omega) ⟨gG _,fun key=>rfl⟩) (fun r hr=>?_) fun r hr=>hr.elim)
 case step=>
  rintro rec c ix hc ⟨hl,hI⟩ kk
  dsimp only
  have hw2:=ku c (by omega)
  have hcc:(c:Int)<(w.2.1.length:Int):=by omega
  rw[cI hcc,dQ c,aA hcc,dg (t:=aP) hc]
  have ht:=take_snoc w.2.1 c hc
  generalize w.2.1[c]=x at ht ⊢
  have h1:(bz bu (.slice 64 aP) x.1 ix).length≤w.2.1.length:=by
   rw[hI x.1]
   exact da (qB ..) (by rw[fe];omega)
  rw[aA ((fM bu x.1 x.1).2 rfl),aA (show ix.length+1≤aE by omega),aA (show((bz bu (.slice 64 aP) x.1 ix).length+List.length [x])*64≤aE by rw[cS];omega),hw2]
  refine kk _ ⟨?_,fun key=>?_⟩
  ·have q1:(bE bu x.1 (Ty.aD (.slice 64 aP)) ix).length≤ix.length+1:=dA (kt:=bu)
   have q2:(bE bu x.1 (bz bu (.slice 64 aP) x.1 ix++[x]) (bE bu x.1 (Ty.aD (.slice 64 aP)) ix)).length≤(bE bu x.1 (Ty.aD (.slice 64 aP)) ix).length+1:=dA (kt:=bu)
   omega
  ·rw[ht,keyF_snoc]
   by_cases e:key=x.1
   ·subst e
    rw[ew (kt:=bu) (vt:=.slice 64 aP) rfl,hI,aA ((fM bu x.1 x.1).2 rfl)]
   ·rw[dB (kt:=bu) (vt:=.slice 64 aP) rfl e,dB (kt:=bu) (vt:=.slice 64 aP) rfl e,hI,aC (fun h=>e ((fM bu x.1 key).1 h).symm),eG]
 case stop=>
  rintro rec ix ⟨hl,hI⟩
  dsimp only
  rw[gK (by omega)]
  rw[List.take_length] at hI
  exact⟨_,rfl,ix,rfl,hI⟩
 obtain⟨ix,rfl,hI⟩:=hr
 dsimp only
 refine bY.2 (W.ct (cG (L:=vG) rfl (CT (fun r=>r=(d,k,ix,derM w.1.1.2.2.2.1,w,0,0,v)) fun _=>False) w.1.1.2.2.2.1.length (fun c(m:Zn)=>(d,k,w.1.1.2.2.2.1,(w.1.1.2.2.2.1.length:Int),(c:Int),ix,m,w,0,0,v)) (fun c m=>m=derM (w.1.1.2.2.2.1.take c)) ?step ?stop _ 0 [] (by omega) (by omega) rfl) (fun r hr=>?_) fun r hr=>hr.elim)
 case step=>
  rintro rec c m hc rfl kk
  dsimp only
  have hw2:=ku c (by omega)
  have hcc:(c:Int)<(w.1.1.2.2.2.1.length:Int):=by omega
  have hl:=derM_len (w.1.1.2.2.2.1.take c)
  rw[fe] at hl
  rw[cI hcc,dQ c,aA hcc,aA (show(derM (w.1.1.2.2.2.1.take c)).length+1≤aE by omega),hw2,dg (t:=bD) hc]
  exact kk _ (by rw[take_snoc _ _ hc,derM_snoc])
 case stop=>
  rintro rec m rfl
  dsimp only
  rw[gK (by omega),List.take_length]
  exact⟨_,rfl,rfl⟩
 subst hr
 exact⟨_,rfl,ix,rfl,hI⟩
theorem I5(w:bO)(PS:Ze)(hf:w.2.1.length≤1000000)(hr:w.1.1.2.2.2.1.length≤aE)(hP:∀f∈w.2.1,f.2.1∈PS)(d k:Int)(v:Bool):
 ∃(ix:Ix)(m:DM),oi w d k v=some (w,ix,d,k,v,m,(),[],[],[])∧IX PS ix∧∀a,bz (.int .i64) .bool a (bU m)=true→∃u∈w.1.1.2.2.2.1,u.2.1=a:=by
 obtain⟨ix,e,h⟩:=newF_u w hf hr d k v
 refine⟨_,_,e,fun key=>?_,fun a ha=>derM_get a _ ha⟩
 have e2:bz bu (.slice 64 aP) key (bU (some ix))=keyF key w.2.1:=h key
 rw[e2]
 exact⟨da (qB ..) hf,fun f hf=>hP f (List.mem_filter.1 hf).1⟩
theorem si{α β:Type}{f:α→List β}{n:Nat}:∀{l:List α},(∀x∈l,(f x).length≤n)→(l.flatMap f).length≤l.length*n
 |[],_=>gG _
 |
  x::l,h=>by
  have h1:=h x (cK ..)
  have h2:=si (f:=f) (n:=n) (l:=l) fun y hy=>h y (dr _ hy)
  rw[List.flatMap_cons,cN,dE,cM]
  omega
def CO(w:bO)(p:Int):Ze:=0::p::(w.2.1.map (fun f=>f.2.1)++w.1.1.2.2.2.1.flatMap fun u=>u.2.2.2.2.1.map fun t=>t.2.2.1.2.2.2.2.1)
def Uo(w:bO)(p:Int)(x:Pl):List Pl:=x::(List.range w.1.1.2.2.1.length).flatMap fun(i:Nat)=>(CO w p).flatMap fun(q:Int)=>(List.range 4).map fun(j:Nat)=>(((i:Int),(q,((j:Int),()))):Pl)
theorem I6{w:bO}(p:Int)(hT:FT w.1.1)(hf:w.2.1.length≤30):(CO w p).length≤56:=by
 have h:=si (f:=fun u:cQ=>u.2.2.2.2.1.map fun t=>t.2.2.1.2.2.2.2.1) (n:=6) (l:=w.1.1.2.2.2.1) fun x hx=>by rw[iK];exact hT.UC x hx
 have h4:=hT.rules
 unfold CO
 rw[dE,dE,cN,iK]
 omega
theorem Lx{w:bO}(p:Int)(x:Pl)(hT:FT w.1.1)(hf:w.2.1.length≤30):(Uo w p x).length≤1000000:=by
 have h1:=I6 p hT hf
 have h2:∀i:Nat,((CO w p).flatMap fun(q:Int)=>(List.range 4).map fun(j:Nat)=>(((i:Int),(q,((j:Int),()))):Pl)).length≤224:=fun i=>by
  have:=si (f:=fun(q:Int)=>(List.range 4).map fun(j:Nat)=>(((i:Int),(q,((j:Int),()))):Pl)) (n:=4) (l:=CO w p) fun y _=>by rw[iK,List.length_range];exact cq _
  omega
 have h3:=si (f:=fun(i:Nat)=>(CO w p).flatMap fun(q:Int)=>(List.range 4).map fun(j:Nat)=>(((i:Int),(q,((j:Int),()))):Pl)) (n:=224) (l:=List.range w.1.1.2.2.1.length) fun i _=>h2 i
 rw[List.length_range] at h3
 have h4:=hT.schemas
 unfold Uo
 rw[dE]
 omega
theorem UD{w:bO}{lo:Ze}(hc:CG w.1.1 lo)(hT:FT w.1.1)(hf:w.2.1.length≤30)(p:Int)(x:Pl){ix:Ix}(hix:IX (CO w p) ix):WX w lo (CO w p) (Uo w p x) ix where
 cg:=hc
 zero:=cK ..
 consts u hu t ht:=dr _ (dr _ (oI _ (List.mem_flatMap.2 ⟨u,hu,List.mem_map.2 ⟨t,ht,rfl⟩⟩)))
 pl a q i a0 a1 hq i0 i1:=by
  refine dr _ (List.mem_flatMap.2 ⟨a.toNat,List.mem_range.2 (by omega),List.mem_flatMap.2 ⟨q,hq,List.mem_map.2 ⟨i.toNat,List.mem_range.2 (by omega),?_⟩⟩⟩)
  have e1:((a.toNat:Nat):Int)=a:=by omega
  have e2:((i.toNat:Nat):Int)=i:=by omega
  rw[e1,e2]
 len:=Lx p x hT hf
 fl a a0 a1:=by
  have:=hT.fields _ (dM (t:=bJ) (l:=w.1.1.2.2.1) a0 a1)
  exact da this (by decide)
 ix:=hix
theorem vD(a p:Int)(w:bO)(ix:Ix)(d k:Int)(b:Bool)(m:DM)(z:Unit)(fo:FM)(se:SM)(rs:Zh):
 ∃y,oj a p w ix d k b m z fo se rs=some (y,w,ix,d,k,b,m,z,fo,se,rs)∧(y=true→b=true∧bz (.int .i64) .bool a (bU m)=true):=by
 unfold oj
 cases b with
 |false=>exact⟨false,rfl,fun h=>(by cases h)⟩
 |
  true=>
  rw[aA rfl]
  cases hm:bz (.int .i64) .bool a (bU m) with
  |false=>exact⟨false,rfl,fun h=>(by cases h)⟩
  |
   true=>
   rw[aA rfl]
   have yes:∀x:Option (Bool×bO×Ix×Int×Int×Bool×DM×Unit×FM×SM×List ko),(∃y,x=some (y,w,ix,d,k,true,m,z,fo,se,rs))→∃y,x=some (y,w,ix,d,k,true,m,z,fo,se,rs)∧(y=true→true=true∧true=true):=fun x ⟨y,hy⟩=>⟨y,hy,fun _=>⟨rfl,rfl⟩⟩
   apply yes
   repeat' (first|exact⟨_,rfl⟩|split)
theorem DN(w:bO)(hs:SA w.1.1)(hT:FT w.1.1)(hf:w.2.1.length≤30)(a p d k:Int):
 W (f55 w a p d k) fun r=>r.2.2.2.2.1=true→∃u∈w.1.1.2.2.2.1,u.2.1=a∧0≤a∧a<(w.1.1.2.2.1.length:Int):=by
 have hB:=hB
 unfold f55
 obtain⟨r,e,hc⟩:=check_eq w.1 hs
 rw[e,aH]
 obtain⟨ix,m,e2,hix,hm⟩:=I5 w (CO w p) (by omega) hs.sw.rules (fun f hf=>dr _ (dr _ (gM _ (List.mem_map.2 ⟨f,hf,rfl⟩)))) d k (decide (r=(0:Int)))
 rw[e2,aH]
 dsimp only
 obtain⟨y,e3,hy⟩:=vD a p w ix d k (decide (r=(0:Int))) m () [] [] []
 rw[e3,aH]
 dsimp only
 cases y with
 |false=>exact⟨_,rfl,fun h=>(by cases h)⟩
 |
  true=>
  rw[aC (by decide)]
  obtain⟨hr,hmg⟩:=hy rfl
  obtain⟨lo,hcg⟩:=hc (gN hr)
  have hw:=UD hcg hT hf p (a,(p,((0:Int),()))) hix
  refine vX.2 ((lookk_eq hw d k (decide (r=(0:Int))) m () (a,(p,((0:Int),()))) (FI.nil _ _ _) (fun q hq=>(by cases hq)) (cK ..) (dr _ (cK ..))).mono fun x hx=>?_)
  obtain⟨fo',se',x',rs',rfl,_,_⟩:=hx
  refine⟨_,rfl,fun _=>?_⟩
  obtain⟨u,hu,rfl⟩:=hm a hmg
  have hR:=hcg.tg.rules u hu
  exact⟨u,hu,rfl,hR.h0,hR.h1⟩
theorem of_eq(w:bO)(hs:SA w.1.1)(hT:FT w.1.1)(hf:w.2.1.length≤30)(a p d k:Int):
 ∃rs ok x,f34 w a p d k=some (rs,ok,x)∧(ok=true→∃u∈w.1.1.2.2.2.1,u.2.1=a∧0≤a∧a<(w.1.1.2.2.1.length:Int)):=by
 obtain⟨r,e,h⟩:=DN w hs hT hf a p d k
 unfold f34
 rw[e,aH]
 exact⟨_,_,_,rfl,h⟩
theorem has_eq(l:Zm)(a:Int)(hl:l.length≤aE):∃b,rR l a=some b∧(b=true↔∃u∈l,u.2.1=a):=by
 obtain⟨r,e,h⟩:=Qh (E:=Int) bD (fun x y=>wO x y) l a (fun u=>decide (u.2.1=a)) (fun x _=>rfl) hl
 have e':wP l a=some r:=e
 unfold rR
 rw[e',aH]
 refine⟨_,rfl,?_⟩
 rw[ik,h]
 constructor
 ·rintro⟨u,hu,hq⟩;exact⟨u,hu,gN hq⟩
 ·rintro⟨u,hu,hq⟩;exact⟨u,hu,cC hq⟩
theorem qU(s:cY)(hl:s.2.2.2.1.length≤aE)(a:Int):
 (f66 s a=some 1∧0≤a∧a<(s.2.2.1.length:Int)∧∃u∈s.2.2.2.1,u.2.1=a)∨(f66 s a=some 0∧¬(0≤a∧a<(s.2.2.1.length:Int)∧∃u∈s.2.2.2.1,u.2.1=a)):=by
 unfold f66
 by_cases h0:0≤a
 ·rw[cI h0]
  by_cases h1:a<(s.2.2.1.length:Int)
  ·rw[cI h1]
   obtain⟨b,e,hb⟩:=has_eq s.2.2.2.1 a hl
   rw[e]
   cases b with
   |true=>exact Or.inl ⟨rfl,h0,h1,hb.1 rfl⟩
   |false=>exact Or.inr ⟨rfl,fun h=>by cases hb.2 h.2.2⟩
  ·rw[aC (show¬decide (a<(s.2.2.1.length:Int))=true by simpa using h1)]
   exact Or.inr ⟨rfl,fun h=>h1 h.2.1⟩
 ·rw[aC (show¬decide ((0:Int)≤a)=true by simpa using h0)]
  exact Or.inr ⟨rfl,fun h=>h0 h.1⟩
theorem uG(s:cY)(hl:s.2.2.2.1.length≤aE)(a:Int):∃b,f32 s a=some b∧(b=true↔∃u∈s.2.2.2.1,u.2.1=a):=by
 have hB:=hB
 suffices hW:W (f32 s a) fun b=>b=true↔∃u∈s.2.2.2.1,u.2.1=a by
  obtain⟨r,e,h⟩:=hW
  exact⟨r,e,h⟩
 unfold f32
 refine bY.2 (W.ct (cG (L:=D8) rfl (CT (fun _=>∀j(hj:j<s.2.2.2.1.length),s.2.2.2.1[j].2.1≠a) fun r=>r=true∧∃u∈s.2.2.2.1,u.2.1=a) s.2.2.2.1.length (fun c(_:Unit)=>(a,(c:Int),s)) (fun c _=>∀j(hj:j<s.2.2.2.1.length),j<c→s.2.2.2.1[j].2.1≠a) ?step ?stop fJ 0 () (by show _<18446744073709551616;omega) (by omega) (fun j _ h=>absurd h (Nat.not_lt_zero _))) (fun d hd=>?_) fun r hr=>?_)
 case step=>
  intro rec c _ hc hI kk
  dsimp only
  have hw2:=ku c (by omega)
  have hcc:(c:Int)<(s.2.2.2.1.length:Int):=by omega
  rw[cI hcc,dQ c,aA hcc,dg (t:=bD) hc]
  by_cases e:s.2.2.2.1[c].2.1=a
  ·rw[cI e]
   exact⟨_,rfl,rfl,_,ij hc,e⟩
  ·rw[aC (show¬decide (s.2.2.2.1[c].2.1=a)=true by simpa using e),hw2]
   refine kk () fun j hj hjc=>?_
   by_cases e2:j=c
   ·subst e2;exact e
   ·exact hI j hj (by omega)
 case stop=>
  intro rec _ hI
  dsimp only
  rw[gK (by omega)]
  exact⟨_,rfl,fun j hj=>hI j hj hj⟩
 ·refine⟨false,rfl,fun h=>(by cases h),?_⟩
  rintro⟨u,hu,e⟩
  obtain⟨j,hj,rfl⟩:=iJ hu
  exact absurd e (hd j hj)
 ·obtain⟨rfl,h⟩:=hr
  exact⟨fun _=>h,fun _=>rfl⟩
theorem DO(v:bO)(hR:v.1.1.2.2.2.1.length≤aE)(a p i d k:Int)(h:¬(0≤a∧a<(v.1.1.2.2.1.length:Int))):∃x rs,f33 v a p i d k=some (false,x,rs):=by
 unfold f33
 obtain⟨b,e,hb⟩:=recorded_eq v.1.1 hR a
 rw[e,aH]
 cases b with
 |false=>exact⟨_,_,rfl⟩
 |true=>exact absurd ⟨(hb rfl).1,(hb rfl).2.1⟩ h
theorem DP(w:bO)(hs:SA w.1.1)(hT:FT w.1.1)(hf:w.2.1.length≤30)(a p i d k:Int):∃ok x rs,f33 w a p i d k=some (ok,x,rs):=by
 have hB:=hB
 obtain⟨⟨ok,x,rs⟩,e,_⟩:=recAt_eq (PS:=CO w p) w hs.sw.nb hs.sw.rules (fun a a0 a1=>da (hT.fields _ (dM (t:=bJ) (l:=w.1.1.2.2.1) a0 a1)) (by decide)) (by omega) (fun f hf=>dr _ (dr _ (gM _ (List.mem_map.2 ⟨f,hf,rfl⟩)))) a p i d k (dr _ (cK ..))
 exact⟨ok,x,rs,e⟩
theorem CP(w:bO)(hs:SA w.1.1)(hT:FT w.1.1)(hf:w.2.1.length≤30)(a p i d k:Int):
 ∃rs ok x rs' x',f39 w a p i d k=some (rs,ok,x)∧f15 w a p i d k=some (rs',ok,x')∧(ok=true→x=x'):=by
 unfold f39 f15
 obtain⟨b,e2,hb⟩:=uG w.1.1 hs.sw.rules a
 rw[e2,aH]
 obtain⟨ok,x,rs,e4⟩:=DP w hs hT hf a p i d k
 obtain⟨rs1,ok1,x1,e5,h5⟩:=of_eq w hs hT hf a p d k
 rcases qU w.1.1 hs.sw.rules a with⟨e1,a0,a1,hu⟩|⟨e1,hn⟩
 ·rw[e1,aH,aA (by decide),aA (by decide),aC (by decide),aA rfl]
  have:b=true:=hb.2 hu
  subst this
  rw[aC (by decide)]
  unfold f65
  by_cases hi:i=0
  ·rw[aC (show¬(!decide (i=(0:Int)))=true by simp[hi]),e5]
   exact⟨_,_,_,_,_,rfl,rfl,fun _=>rfl⟩
  ·rw[aA (show(!decide (i=(0:Int)))=true by simp[hi])]
   exact⟨_,_,_,_,_,rfl,rfl,fun _=>rfl⟩
 ·rw[e1,aH,aA (by decide),aA (by decide),aA rfl]
  cases b with
  |
   false=>
   rw[aA (by decide),e4]
   exact⟨_,_,_,_,_,rfl,rfl,fun _=>rfl⟩
  |
   true=>
   have hu:=hb.1 rfl
   have hout:¬(0≤a∧a<(w.1.1.2.2.1.length:Int)):=fun h=>hn ⟨h.1,h.2,hu⟩
   obtain⟨x2,rs2,e6⟩:=DO w hs.sw.rules a p i d k hout
   rw[e6,aC (by decide)]
   by_cases hi:i=0
   ·rw[aC (show¬(!decide (i=(0:Int)))=true by simp[hi]),e5]
    cases ok1 with
    |false=>exact⟨_,_,_,_,_,rfl,rfl,fun h=>(by cases h)⟩
    |
     true=>
     obtain⟨_,_,_,a0,a1⟩:=h5 rfl
     exact absurd ⟨a0,a1⟩ hout
   ·rw[aA (show(!decide (i=(0:Int)))=true by simp[hi])]
    exact⟨_,_,_,_,_,rfl,rfl,fun h=>(by cases h)⟩
abbrev gV(p:mX):Ze:=p.2.2.2.2.2.2.2.1
abbrev Pf(p:mX):Ze:=p.2.2.2.2.2.2.2.2.1
structure qk(p:mX):Prop where
 pos:∀j<(gV p).length,0≤nth (.int .i64) (gV p) (j:Int)
 len:(gV p).length=(Pf p).length
theorem ge0{v d:Int}(h:¬v≤d)(hd:-1≤d):0≤v:=by omega
theorem gem{v d:Int}(h:¬v≤d)(hd:-1≤d):-1≤v:=by omega
theorem vE(p:mX)(hl:(gV p).length≤aE):∃r,f20 p=some r∧(r=true→qk p):=by
 have hB:=hB
 suffices hW:W (f20 p) fun r=>r=true→qk p by
  obtain⟨r,e,h⟩:=hW
  exact⟨r,e,h⟩
 unfold f20
 refine bY.2 (W.ct (cG (L:=ER) rfl (CT (fun d=>d=p∧∀j<(gV p).length,0≤nth (.int .i64) (gV p) (j:Int)) fun r=>r=false) (gV p).length (fun c(d:Int)=>(d,gV p,((gV p).length:Int),(c:Int),p)) (fun c d=>-1≤d∧∀j<c,0≤nth (.int .i64) (gV p) (j:Int)) ?step ?stop _ 0 (-1) (show(gV p).length -0<Int.toNat ((gV p).length:Int)+1 by omega) (by omega) ⟨jW _,fun j hj=>absurd hj (Nat.not_lt_zero _)⟩) (fun d hd=>?_) fun r hr=>?_)
 case step=>
  rintro rec c d hc ⟨hd,hI⟩ kk
  dsimp only
  have hw2:=ku c (by omega)
  have hcc:(c:Int)<((gV p).length:Int):=by omega
  rw[cI hcc,dQ c,aA hcc]
  by_cases h:nth (.int .i64) (gV p) (c:Int)≤d
  ·rw[cI h];exact⟨_,rfl,rfl⟩
  ·rw[aC (fun h'=>h (gN h')),hw2]
   refine kk _ ⟨gem h hd,fun j hj=>?_⟩
   by_cases e:j=c
   ·subst e;exact ge0 h hd
   ·exact hI j (by omega)
 case stop=>
  rintro rec d ⟨hd,hI⟩
  dsimp only
  rw[gK (by omega)]
  exact⟨_,rfl,rfl,hI⟩
 ·obtain⟨rfl,h⟩:=hd
  exact⟨_,rfl,fun hr=>⟨h,by have h2:((gV d).length:Int)=((Pf d).length:Int):=gN hr;omega⟩⟩
 ·subst hr;exact fun h=>(by cases h)
def bad(ok:Bool)(xs:Ze)(p:mX)(j:Nat):Bool:= !(ok&&decide (nth (.int .i64) (gV p) (j:Int)<(xs.length:Int))&&decide (nth (.int .i64) xs (nth (.int .i64) (gV p) (j:Int))=nth (.int .i64) (Pf p) (j:Int)))
def WL(ok:Bool)(xs:Ze)(p:mX):Nat→Ze
 |0=>[]
 |n+1=>WL ok xs p n++if bad ok xs p n=true then[nth (.int .i64) (gV p) (n:Int)] else[]
theorem Bi(ok:Bool)(xs:Ze)(p:mX):∀n,(WL ok xs p n).length≤n
 |0=>cq _
 |
  n+1=>by
  have:=Bi ok xs p n
  unfold WL
  rw[cN]
  split<;>simp<;>omega
theorem lq(w:bO)(p:mX)(k:Int)(hp:qk p)(hl:(gV p).length≤16){rs:Zh}{ok:Bool}{x:qi}(hx:f39 w p.2.2.1 p.2.2.2.1 p.2.2.2.2.1 p.2.2.2.2.2.1 k=some (rs,ok,x)):
 f21 w p k=some (WL ok x.2.2.2.1 p (gV p).length,rs,ok):=by
 have hB:=hB
 suffices hW:W (f21 w p k) fun r=>r=(WL ok x.2.2.2.1 p (gV p).length,rs,ok) by
  obtain⟨r,e,rfl⟩:=hW
  exact e
 unfold f21
 rw[hx,aH]
 refine bY.2 (W.ct (cG (L:=Gj) rfl (CT (fun d=>d=(rs,ok,WL ok x.2.2.2.1 p (gV p).length)) fun _=>False) (gV p).length (fun c(g:Ze)=>(rs,ok,gV p,((gV p).length:Int),(c:Int),p,x,g)) (fun c g=>g=WL ok x.2.2.2.1 p c) ?step ?stop _ 0 [] (show(gV p).length -0<Int.toNat ((gV p).length:Int)+1 by omega) (by omega) rfl) (fun d hd=>?_) fun r hr=>hr.elim)
 case step=>
  intro rec c g hc hg kk
  subst hg
  dsimp only
  have hw2:=ku c (by omega)
  have hcc:(c:Int)<((gV p).length:Int):=by omega
  have h0:=hp.pos c hc
  have hlv:(c:Int)<((Pf p).length:Int):=by rw[←hp.len];exact hcc
  have hlen:=Bi ok x.2.2.2.1 p c
  rw[cI hcc,dQ c,aA hcc]
  have key:∀b:Bool,b=bad ok x.2.2.2.1 p c→W (if b=true then(if(List.length (WL ok x.2.2.2.1 p c)+List.length [nth (.int .i64) (gV p) (c:Int)])*8≤aE then(rec (rs,ok,gV p,((gV p).length:Int),aZ ((c:Int)+(1:Int)),p,x,WL ok x.2.2.2.1 p c++[nth (.int .i64) (gV p) (c:Int)])) else none) else(rec (rs,ok,gV p,((gV p).length:Int),aZ ((c:Int)+(1:Int)),p,x,WL ok x.2.2.2.1 p c))) (CT (fun d=>d=(rs,ok,WL ok x.2.2.2.1 p (gV p).length)) fun _=>False):=fun b hb=>by
   subst hb
   rw[hw2]
   cases hbad:bad ok x.2.2.2.1 p c with
   |
    true=>
    rw[aA rfl,aA (by rw[cS];omega)]
    exact kk _ (by show _=WL ok x.2.2.2.1 p c++_;rw[aA hbad])
   |
    false=>
    rw[aC (by decide)]
    exact kk _ (by show _=WL ok x.2.2.2.1 p c++_;rw[aC (by rw[hbad];decide),eG])
  cases ok with
  |false=>exact key true rfl
  |
   true=>
   rw[aC (by decide)]
   by_cases h1:(x.2.2.2.1.length:Int)≤nth (.int .i64) (gV p) (c:Int)
   ·rw[cI h1]
    refine key true ?_
    unfold bad
    rw[dF (show¬nth (.int .i64) (gV p) (c:Int)<(x.2.2.2.1.length:Int) from Int.not_lt.2 h1)]
    rfl
   ·have h2:nth (.int .i64) (gV p) (c:Int)<(x.2.2.2.1.length:Int):=Int.not_le.1 h1
    rw[aC (fun h'=>h1 (gN h')),aA h0,aA h2,dQ c,aA hlv]
    refine key _ ?_
    unfold bad
    rw[cC h2]
    rfl
 case stop=>
  rintro rec g rfl
  dsimp only
  rw[gK (by omega)]
  exact⟨_,rfl,rfl⟩
 ·subst hd;exact⟨_,rfl,rfl⟩
theorem true_eq(w:bO)(p:mX)(k:Int)(hl:(gV p).length≤16){rs:Zh}{ok:Bool}{x:qi}(hx:f39 w p.2.2.1 p.2.2.2.1 p.2.2.2.2.1 p.2.2.2.2.2.1 k=some (rs,ok,x)):
 ∃b r,f8 w p k=some (b,r)∧(b=true→qk p)∧(qk p→f20 p=some true→b=(ok&&decide (WL ok x.2.2.2.1 p (gV p).length= [])))∧(b=true→f20 p=some true):=by
 have hB:=hB
 unfold f8
 obtain⟨r,e,hr⟩:=vE p (by omega)
 rw[e,aH]
 cases r with
 |false=>exact⟨false,_,rfl,fun h=>(by cases h),fun _ h=>(by cases h),fun h=>(by cases h)⟩
 |
  true=>
  have hp:=hr rfl
  rw[aC (by decide),lq w p k hp hl hx,aH]
  dsimp only
  have ed:decide (((WL ok x.2.2.2.1 p (gV p).length).length:Int)=(0:Int))=decide (WL ok x.2.2.2.1 p (gV p).length= []):=by
   cases WL ok x.2.2.2.1 p (gV p).length with
   |nil=>rfl
   |cons a l=>simp;omega
  cases ok with
  |false=>exact⟨false,_,rfl,fun h=>(by cases h),fun _ _=>rfl,fun h=>(by cases h)⟩
  |
   true=>
   rw[aA rfl,ed]
   exact⟨_,_,rfl,fun _=>hp,fun _ _=>rfl,fun _=>rfl⟩
def tB(w:bO)(k:Int)(p:mX):Bool:=((f8 w p k).map fun x=>x.1).getD false
def zL(w:bO)(k:Int)(p:mX):Ze:=((f21 w p k).map fun x=>x.1).getD []
def Oo(w:bO)(b a:Int)(p:mX):Bool:=tB w b p&& !tB w a p
def nt(w:bO)(a:Int)(p:mX):XC:=(p.1,(p.2.1,(zL w a p,())))
def AN(w:bO)(b a:Int)(l:ZP):ZQ:=(l.filter (Oo w b a)).map (nt w a)
theorem zr(xs ys:Ze)(p:mX):∀n,WL false xs p n=WL false ys p n
 |0=>rfl
 |
  n+1=>by
  show WL false xs p n++_=WL false ys p n++_
  rw[zr xs ys p n]
  rfl
structure PP(w:bO)(b a:Int)(p:mX):Prop where
 was:∃r,f8 w p b=some (tB w b p,r)
 is:∃r,f8 w p a=some (tB w a p,r)
 more:tB w b p=true→qk p∧∃rs' ok x' rs,f15 w p.2.2.1 p.2.2.2.1 p.2.2.2.2.1 p.2.2.2.2.2.1 a=some (rs',ok,x')∧f21 w p a=some (zL w a p,rs,ok)∧zL w a p=WL ok x'.2.2.2.1 p (gV p).length∧((ok=false∨0<(zL w a p).length)↔tB w a p=false)
theorem Oq(w:bO)(hs:SA w.1.1)(hT:FT w.1.1)(hf:w.2.1.length≤30)(b a:Int)(p:mX)(hl:(gV p).length≤16):PP w b a p:=by
 obtain⟨rs1,ok1,x1,rs1',x1',c1,d1,s1⟩:=CP w hs hT hf p.2.2.1 p.2.2.2.1 p.2.2.2.2.1 p.2.2.2.2.2.1 b
 obtain⟨rs2,ok2,x2,rs2',x2',c2,d2,s2⟩:=CP w hs hT hf p.2.2.1 p.2.2.2.1 p.2.2.2.2.1 p.2.2.2.2.2.1 a
 obtain⟨b1,r1,e1,f1,g1,k1⟩:=true_eq w p b hl c1
 obtain⟨b2,r2,e2,f2,g2,k2⟩:=true_eq w p a hl c2
 have t1:tB w b p=b1:=by unfold tB;rw[e1];rfl
 have t2:tB w a p=b2:=by unfold tB;rw[e2];rfl
 refine⟨⟨r1,by rw[t1];exact e1⟩,⟨r2,by rw[t2];exact e2⟩,fun h=>?_⟩
 rw[t1] at h
 have hp:=f1 h
 have e3:=lq w p a hp hl c2
 have z:zL w a p=WL ok2 x2.2.2.2.1 p (gV p).length:=by unfold zL;rw[e3];rfl
 refine⟨hp,rs2',ok2,x2',rs2,d2,by rw[z];exact e3,?_,?_⟩
 ·rw[z]
  cases ok2 with
  |false=>exact zr _ _ _ _
  |true=>rw[s2 rfl]
 ·rw[z,t2,g2 hp (k1 h)]
  cases ok2 with
  |false=>exact⟨fun _=>rfl,fun _=>Or.inl rfl⟩
  |
   true=>
   cases WL true x2.2.2.2.1 p (gV p).length with
   |nil=>exact⟨fun h=>h.elim (fun h=>by cases h) (fun h=>absurd h (Nat.lt_irrefl _)),fun h=>by cases h⟩
   |cons y ys=>exact⟨fun _=>rfl,fun _=>Or.inr (Nat.zero_lt_succ _)⟩
theorem xJ(w:bO)(b a:Int)(p:mX)(l:ZP):AN w b a (p::l)=(if Oo w b a p=true then[nt w a p] else[])++AN w b a l:=by
 unfold AN
 rw[lE]
 split
 ·rw[dp];rfl
 ·rfl
theorem CQ(w:bO)(b a:Int):∀(l:ZP)(acc:ZQ),(∀p∈l,PP w b a p)→(acc.length+l.length)*40≤aE→xT w b a l acc=some (acc++AN w b a l)
 |
  [],acc,_,_=>by
  show some acc=_
  unfold AN
  rw[List.filter_nil,List.map_nil,eG]
 |
  p::l,acc,hp,hb=>by
  obtain⟨⟨r1,e1⟩,⟨r2,e2⟩,hm⟩:=hp p (cK ..)
  have ih:=fun acc=>CQ w b a l acc (fun q hq=>hp q (dr _ hq))
  rw[dE] at hb
  unfold xT
  rw[e1,aH,xJ]
  unfold Oo
  cases h1:tB w b p with
  |
   false=>
   rw[aA rfl,aC (by simp),gO]
   exact ih acc (by omega)
  |
   true=>
   rw[aC (by simp)]
   obtain⟨_,rs',ok,x',rs,_,e3,_,hk⟩:=hm h1
   rw[e3,aH]
   cases h2:tB w a p with
   |
    false=>
    rw[aA (hk.2 h2),aA (by omega),aA (show(true&& !false)=true from rfl),ih _ (by rw[cN,cS];omega),jV]
    rfl
   |
    true=>
    rw[aC (fun h=>by have:=hk.1 h;rw[h2] at this;cases this),aC (by simp),gO]
    exact ih acc (by omega)
theorem Bj(w:bO)(b a:Int)(l:ZP)(hp:∀p∈l,PP w b a p)(hl:l.length≤6):zD w l b a=some (AN w b a l):=by
 have hB:=hB
 unfold zD
 rw[aA (by omega),CQ w b a l [] hp (by rw[jA];omega),gO]
theorem Ot{s:cY}(h:wf gS s):SA s where
 ss:=
  {issuers:=h.1.2.1
   units:=h.2.1.2.1
   schemas:=h.2.2.1.2.1
   rules:=h.2.2.2.1.2.1
   converts:=h.2.2.2.2.1.2.1
   purposes:=h.2.2.2.2.2.1.2.1
   fields:=fun x hx=>⟨(h.2.2.1.2.2 x hx).2.2.2.2.1.2.1,fun f hf=>((h.2.2.1.2.2 x hx).2.2.2.2.1.2.2 f hf).2.1.2.2.2.2.2.1.2.1⟩
   depends:=fun x hx=>⟨(h.2.2.1.2.2 x hx).2.2.2.2.2.1.2.1,fun d hd=>⟨((h.2.2.1.2.2 x hx).2.2.2.2.2.1.2.2 d hd).1.2.1,((h.2.2.1.2.2 x hx).2.2.2.2.2.1.2.2 d hd).2.2.1.2.1⟩⟩
   rl:=fun r hr=>⟨(h.2.2.2.1.2.2 r hr).2.2.1.2.1,(h.2.2.2.1.2.2 r hr).2.2.2.1.2.1,(h.2.2.2.1.2.2 r hr).2.2.2.2.1.2.1⟩
   mv:=fun c hc=>(h.2.2.2.2.1.2.2 c hc).2.2.2.2.1.2.1
   may:=fun p hp=>(h.2.2.2.2.2.1.2.2 p hp).2.1.2.1}
 bs:=
  {issuers:=h.1.1
   units:=h.2.1.1
   schemas:=h.2.2.1.1
   rules:=h.2.2.2.1.1
   converts:=h.2.2.2.2.1.1
   purposes:=h.2.2.2.2.2.1.1
   sch:=fun x hx=>⟨(h.2.2.1.2.2 x hx).2.2.2.2.1.1,(h.2.2.1.2.2 x hx).2.2.2.2.2.1.1,fun d hd=>((h.2.2.1.2.2 x hx).2.2.2.2.2.1.2.2 d hd).1.1⟩
   rl:=fun r hr=>⟨(h.2.2.2.1.2.2 r hr).2.2.1.1,(h.2.2.2.1.2.2 r hr).2.2.2.1.1,(h.2.2.2.1.2.2 r hr).2.2.2.2.1.1⟩
   cv:=fun c hc=>(h.2.2.2.2.1.2.2 c hc).2.2.2.2.1.1
   pu:=fun p hp=>(h.2.2.2.2.2.1.2.2 p hp).2.1.1}
 sw:=
  {units:=h.2.1.2.1
   schemas:=h.2.2.1.2.1
   rules:=h.2.2.2.1.2.1
   purposes:=h.2.2.2.2.2.1.2.1
   nb:=fun x hx=>⟨(h.2.2.1.2.2 x hx).2.2.2.2.1.2.1,fun f hf=>((h.2.2.1.2.2 x hx).2.2.2.2.1.2.2 f hf).2.1.2.2.2.2.2.1.2.1⟩
   rl:=fun r hr=>⟨(h.2.2.2.1.2.2 r hr).2.2.1.2.1,(h.2.2.2.1.2.2 r hr).2.2.2.1.2.1,(h.2.2.2.1.2.2 r hr).2.2.2.2.1.1⟩
   may:=fun p hp=>(h.2.2.2.2.2.1.2.2 p hp).2.1.2.1}
theorem nth_setN{l:Ze}{i j:Nat}(v:Int)(_hi:i<l.length)(hj:j<l.length):nth (.int .i64) (l.set i v) (j:Int)=if i=j then v else nth (.int .i64) l (j:Int):=by
 have hj':j<(l.set i v).length:=by rw[bF];exact hj
 rw[dg (t:=.int .i64) hj',dg (t:=.int .i64) hj,List.getElem_set]
theorem imax_le{a:Int}{c:Nat}:imax a 0≤(c:Int)↔a≤(c:Int):=by unfold imax;split<;>omega
theorem imax_p{a:Int}(h:0≤a):imax a (-1)=a:=by unfold imax;split<;>omega
theorem imax_n{a:Int}(h:¬0≤a):imax a (-1)= -1:=by unfold imax;split<;>omega
theorem imin_lt{a:Int}{c:Nat}(hc:c<1024):(c:Int)<nS a 1024↔(c:Int)<a:=by unfold nS;split<;>omega
theorem wm1{y:Int}{i n:Nat}(h0:0≤y)(h1:y≤(i:Int))(hi:i<n)(hn:n≤1000)(hz:¬y=0):aZ (y -1)=y -1∧0≤y -1∧y -1<(n:Int):=⟨fu (by omega) (by omega),by omega,by omega⟩
def updC(own:Zk)(i:Nat)(x:fa)(dy:Nat)(c:Int):Int:=if x.2.2.1.1≤(dy:Int)∧(dy:Int)<x.2.2.1.2.1∧(c=0∨xR (nth aP own (c -1)) x≤0) then((i+1:Nat):Int) else c
theorem paint7(own:Zk)(hown:own.length≤1000)(i:Nat)(hi:i<own.length)(x:fa)(c:Ze)(hc:c.length=1024)(hr:∀dy<1024,0≤nth (.int .i64) c ((dy:Nat):Int)∧nth (.int .i64) c ((dy:Nat):Int)≤(i:Int)):
 W (mY fJ (own,(i:Int),imax x.2.2.1.1 (0:Int),own,(own.length:Int),(i:Int),c,x)) (CT (fun d=>∃c',d=(own,own,(own.length:Int),(i:Int),c')∧c'.length=1024∧∀dy<1024,nth (.int .i64) c' ((dy:Nat):Int)=updC own i x dy (nth (.int .i64) c ((dy:Nat):Int))) fun _=>False):=by
 have hB:=hB
 have h0:0≤imax x.2.2.1.1 0:=by unfold imax;split<;>omega
 obtain⟨lo,hlo⟩:∃lo:Nat,imax x.2.2.1.1 (0:Int)=(lo:Int):=⟨(imax x.2.2.1.1 0).toNat,by omega⟩
 have key:∀(n k:Nat)(e:Ze),1024 -k<n→lo≤k→e.length=1024→(∀dy<1024,nth (.int .i64) e ((dy:Nat):Int)=if dy<k then updC own i x dy (nth (.int .i64) c ((dy:Nat):Int)) else nth (.int .i64) c ((dy:Nat):Int))→
  W (mY n (own,(i:Int),(k:Int),own,(own.length:Int),(i:Int),e,x)) (CT (fun d=>∃c',d=(own,own,(own.length:Int),(i:Int),c')∧c'.length=1024∧∀dy<1024,nth (.int .i64) c' ((dy:Nat):Int)=updC own i x dy (nth (.int .i64) c ((dy:Nat):Int))) fun _=>False):=by
  intro n
  induction n with
  |zero=>intro k e h;omega
  |
   succ n ih=>
   intro k e hn hk he hI
   unfold mY at ih ⊢
   rw[aM]
   generalize aK _ n=rec at ih ⊢
   dsimp only
   by_cases hlt:(k:Int)<nS x.2.2.1.2.1 (1024:Int)
   ·have hk2:k<1024:=by unfold nS at hlt;split at hlt<;>omega
    have hk3:(k:Int)<(1024:Int):=by omega
    have hw2:=ku k (by omega)
    have hwi:=ku i (by omega)
    have hkT:(k:Int)<x.2.2.1.2.1:=(imin_lt hk2).1 hlt
    have hkF:x.2.2.1.1≤(k:Int):=imax_le.1 (by rw[hlo];omega)
    have hek:nth (.int .i64) e ((k:Nat):Int)=nth (.int .i64) c ((k:Nat):Int):=by rw[hI k hk2,aC (by omega)]
    obtain⟨r0,r1⟩:=hr k hk2
    rw[cI hlt,dQ k,aA hk3,hek]
    have next:∀e':Ze,e'.length=1024→(∀dy<1024,nth (.int .i64) e' ((dy:Nat):Int)=if dy<k+1 then updC own i x dy (nth (.int .i64) c ((dy:Nat):Int)) else nth (.int .i64) c ((dy:Nat):Int))→W (rec (own,(i:Int),((k+1:Nat):Int),own,(own.length:Int),(i:Int),e',x)) (CT (fun d=>∃c',d=(own,own,(own.length:Int),(i:Int),c')∧c'.length=1024∧∀dy<1024,nth (.int .i64) c' ((dy:Nat):Int)=updC own i x dy (nth (.int .i64) c ((dy:Nat):Int))) fun _=>False):=fun e' h1 h2=>ih (k+1) e' (by omega) (by omega) h1 h2
    have yes:updC own i x k (nth (.int .i64) c ((k:Nat):Int))=((i+1:Nat):Int)→W (rec (own,(i:Int),aZ ((k:Int)+(1:Int)),own,(own.length:Int),(i:Int),List.set e (Int.toNat (k:Int)) (aZ ((i:Int)+(1:Int))),x)) (CT (fun d=>∃c',d=(own,own,(own.length:Int),(i:Int),c')∧c'.length=1024∧∀dy<1024,nth (.int .i64) c' ((dy:Nat):Int)=updC own i x dy (nth (.int .i64) c ((dy:Nat):Int))) fun _=>False):=fun hu=>by
     rw[hw2,hwi,dJ]
     refine next _ (by rw[bF];exact he) fun dy hdy=>?_
     rw[nth_setN _ (by omega) (by omega)]
     by_cases e1:k=dy
     ·subst e1;rw[aA rfl,aA (by omega),hu]
     ·rw[aC e1,hI dy hdy]
      by_cases e2:dy<k
      ·rw[aA e2,aA (by omega)]
      ·rw[aC e2,aC (by omega)]
    have no:updC own i x k (nth (.int .i64) c ((k:Nat):Int))=nth (.int .i64) c ((k:Nat):Int)→W (rec (own,(i:Int),aZ ((k:Int)+(1:Int)),own,(own.length:Int),(i:Int),e,x)) (CT (fun d=>∃c',d=(own,own,(own.length:Int),(i:Int),c')∧c'.length=1024∧∀dy<1024,nth (.int .i64) c' ((dy:Nat):Int)=updC own i x dy (nth (.int .i64) c ((dy:Nat):Int))) fun _=>False):=fun hu=>by
     rw[hw2]
     refine next _ he fun dy hdy=>?_
     rw[hI dy hdy]
     by_cases e1:dy=k
     ·subst e1;rw[aC (by omega),aA (by omega),hu]
     ·by_cases e2:dy<k
      ·rw[aA e2,aA (by omega)]
      ·rw[aC e2,aC (by omega)]
    generalize nth (.int .i64) c ((k:Nat):Int)=y at r0 r1 yes no ⊢
    by_cases hz:y=0
    ·rw[cI hz,aH,aA rfl,dQ k,aA hk3]
     exact yes (by unfold updC;rw[aA ⟨hkF,hkT,Or.inl hz⟩])
    ·obtain⟨hw3,hw4,hw5⟩:=wm1 r0 r1 hi hown hz
     rw[aC (fun h=>hz (gN h)),dQ k,aA hk3,hw3,aA hw4,aA hw5,Gb,aH,aH]
     by_cases ho:xR (nth aP own (y -1)) x≤0
     ·rw[cI ho,dQ k,aA hk3]
      exact yes (by unfold updC;rw[aA ⟨hkF,hkT,Or.inr ho⟩])
     ·rw[aC (fun h=>ho (gN h))]
      exact no (by unfold updC;rw[aC (fun h=>h.2.2.elim hz ho)])
   ·rw[aC (fun h=>hlt (gN h))]
    refine⟨_,rfl,e,rfl,he,fun dy hdy=>?_⟩
    rw[hI dy hdy]
    split
    ·rfl
    ·rename_i hge
     unfold updC
     rw[aC]
     rintro⟨_,h2,_⟩
     exact hlt (Int.lt_of_le_of_lt (by omega) ((imin_lt hdy).2 h2))
 rw[hlo]
 refine key fJ lo c (by show _<18446744073709551616;omega) (cq _) hc fun dy hdy=>?_
 split
 ·rename_i h
  unfold updC
  rw[aC]
  rintro⟨h1,_,_⟩
  have:=(imax_le (a:=x.2.2.1.1) (c:=dy)).2 h1
  rw[hlo] at this
  omega
 ·rfl
def CIr(own:Zk)(c dy:Nat)(v:Int):Prop:=0≤v∧v≤(c:Int)∧(((own.take c).foldl (gY (dy:Int)) (zF,false)).2=false→v=0)∧(((own.take c).foldl (gY (dy:Int)) (zF,false)).2=true→1≤v∧nth aP own (v -1)=((own.take c).foldl (gY (dy:Int)) (zF,false)).1)
theorem CIr.next{own:Zk}{c dy:Nat}{v:Int}(h:CIr own c dy v)(hc:c<own.length):CIr own (c+1) dy (updC own c own[c] dy v):=by
 obtain⟨h0,h1,h2,h3⟩:=h
 unfold CIr
 rw[List.take_succ_eq_append_getElem hc,List.foldl_append,List.foldl_cons,List.foldl_nil]
 generalize (own.take c).foldl (gY (dy:Int)) (zF,false)=st at h2 h3 ⊢
 have hx:nth aP own (((c+1:Nat):Int) -1)=own[c]:=by
  have e:(((c+1:Nat):Int) -1)=(c:Int):=by omega
  rw[e,dg (t:=aP) hc]
 unfold updC gY
 have hiff:(own[c].2.2.1.1≤(dy:Int)∧(dy:Int)<own[c].2.2.1.2.1∧(v=0∨xR (nth aP own (v -1)) own[c]≤0))↔(own[c].2.2.1.1≤(dy:Int)∧(dy:Int)<own[c].2.2.1.2.1∧(st.2=false∨xR st.1 own[c]≤0)):=by
  cases hs:st.2 with
  |
   false=>
   have:=h2 hs
   exact⟨fun h=>⟨h.1,h.2.1,Or.inl rfl⟩,fun h=>⟨h.1,h.2.1,Or.inl this⟩⟩
  |
   true=>
   obtain⟨q1,q2⟩:=h3 hs
   rw[q2]
   exact⟨fun h=>⟨h.1,h.2.1,h.2.2.elim (fun h=>by omega) Or.inr⟩,fun h=>⟨h.1,h.2.1,h.2.2.elim (fun h=>by cases h) Or.inr⟩⟩
 by_cases hcnd:own[c].2.2.1.1≤(dy:Int)∧(dy:Int)<own[c].2.2.1.2.1∧(v=0∨xR (nth aP own (v -1)) own[c]≤0)
 ·rw[aA hcnd,aA (hiff.1 hcnd)]
  exact⟨dD _,jW _,fun h=>(by cases h),fun _=>⟨by omega,hx⟩⟩
 ·rw[aC hcnd,aC fun h=>hcnd (hiff.2 h)]
  exact⟨h0,by omega,h2,h3⟩
theorem paint4(own:Zk)(hown:own.length≤1000):
 W (kO (Int.toNat (List.length own:Int)+1) (own,own,(List.length own:Int),0,Ty.aD iW)) (CT (fun d=>∃c:Ze,d=(own,c)∧c.length=1024∧∀dy<1024,CIr own own.length dy (nth (.int .i64) c ((dy:Nat):Int))) fun _=>False):=by
 have hB:=hB
 have hz:(py:Ze).length=1024:=by unfold py;rw[fO]
 have hz0:∀dy<1024,nth (.int .i64) py ((dy:Nat):Int)=0:=fun dy hdy=>by
  rw[dg (t:=.int .i64) (by rw[hz];exact hdy)]
  unfold py
  rw[List.getElem_replicate]
 refine cG (L:=kO) rfl _ own.length (fun c(e:Ze)=>(own,own,(own.length:Int),(c:Int),e)) (fun c e=>e.length=1024∧∀dy<1024,CIr own c dy (nth (.int .i64) e ((dy:Nat):Int))) ?step ?stop _ 0 py (by omega) (by omega) ⟨hz,fun dy hdy=>?_⟩
 case step=>
  rintro rec c e hc ⟨he,hI⟩ kk
  dsimp only
  have hw2:=ku c (by omega)
  have hcc:(c:Int)<(own.length:Int):=by omega
  rw[cI hcc,dQ c,aA hcc,dg (t:=aP) hc]
  refine bY.2 ((paint7 own hown c hc own[c] e he fun dy hdy=>⟨(hI dy hdy).1,(hI dy hdy).2.1⟩).ct (fun d hd=>?_) fun r hr=>hr.elim)
  obtain⟨c',rfl,h1,h2⟩:=hd
  dsimp only
  rw[hw2]
  exact kk c' ⟨h1,fun dy hdy=>by rw[h2 dy hdy];exact(hI dy hdy).next hc⟩
 case stop=>
  rintro rec e ⟨he,hI⟩
  dsimp only
  rw[gK (by omega)]
  exact⟨_,rfl,e,rfl,he,hI⟩
 rw[hz0 dy hdy]
 exact⟨jW _,jW _,fun _=>rfl,fun h=>(by cases h)⟩
def PV(l:Zk)(k:ib)(dy known:Int):Int:=if(mC l k dy known).2=true then(mC l k dy known).1 else-1
theorem PV_at(l:Zk)(k:ib)(dy known:Int):mC l k dy known=if 0≤PV l k dy known then(PV l k dy known,true) else(0,false):=by
 unfold PV mC
 dsimp only
 split
 ·rename_i h
  rw[aA rfl,aA h.2]
 ·rfl
theorem at_of_PV{l m:Zk}{k:ib}{dy a b:Int}(h:PV l k dy a=PV m k dy b):mC l k dy a=mC m k dy b:=by
 rw[PV_at l,PV_at m,h]
theorem paint_eq(l:Zk)(k:ib)(known:Int)(hl:l.length≤1000):∃V:Ze,gX l k known=some V∧V.length=1024∧∀dy<1024,nth (.int .i64) V ((dy:Nat):Int)=PV l k (dy:Int) known:=by
 have hB:=hB
 have hown:(l.filter (dw k known)).length≤1000:=da (qB ..) hl
 have e1:ka l k known=some (l.filter (dw k known)):=by
  unfold ka
  rw[aA (by omega)]
 obtain⟨z,ez,hz⟩:=paint4 (l.filter (dw k known)) hown
 cases z with
 |ret r=>exact hz.elim
 |
  brk d=>
  obtain⟨c,rfl,hc,hI⟩:=hz
  have fV:Pg (l.filter (dw k known)) c=true:=by
   unfold Pg
   refine List.all_eq_true.2 fun x hx=>?_
   obtain⟨j,hj,rfl⟩:=iJ hx
   have:=(hI j (by omega)).2.1
   rw[dg (t:=.int .i64) hj] at this
   rw[cC (show c[j]≤((l.filter (dw k known)).length:Int) from this),cC (show((l.filter (dw k known)).length:Int)≤1000 by omega)]
   rfl
  refine⟨c.map (zx (l.filter (dw k known))),?_,by rw[iK];exact hc,fun dy hdy=>?_⟩
  ·unfold gX
   rw[e1,aH,ez,aI,aA hc,aA fV]
  ·have hI:=hI dy hdy
   have hd:dy<c.length:=by omega
   rw[dg (t:=.int .i64) hd] at hI
   rw[dg (t:=.int .i64) (by rw[iK];exact hd),List.getElem_map]
   obtain⟨h0,h1,h2,h3⟩:=hI
   rw[List.take_length] at h2 h3
   have est:(l.filter (dw k known)).foldl (gY (dy:Int)) (zF,false)=iB k (dy:Int) known l (zF,false):=rfl
   rw[est] at h2 h3
   unfold zx PV mC
   dsimp only
   generalize iB k (dy:Int) known l (zF,false)=st at h2 h3 ⊢
   generalize c[dy]=v at h0 h1 h2 h3 ⊢
   by_cases hs:st.2=true
   ·obtain⟨q1,q2⟩:=h3 hs
    rw[aA (show(0:Int)<v by omega),q2]
    by_cases hp:0≤st.1.2.1
    ·have e:(if st.2=true∧0≤st.1.2.1 then(st.1.2.1,true) else((0:Int),false))=(st.1.2.1,true):=aA ⟨hs,hp⟩
     rw[e,aA rfl]
     exact imax_p hp
    ·have e:(if st.2=true∧0≤st.1.2.1 then(st.1.2.1,true) else((0:Int),false))=(0,false):=aC (fun h=>hp h.2)
     rw[e,aC (by decide)]
     exact imax_n hp
   ·have hv:=h2 (by simpa using hs)
    have e:(if st.2=true∧0≤st.1.2.1 then(st.1.2.1,true) else((0:Int),false))=(0,false):=aC (fun h=>hs h.1)
    rw[aC (by omega),e,aC (by decide)]
def COV(A B:Ze)(j:Nat)(m:ZH):Prop:=m.length≤j∧∀dy<j,nth (.int .i64) A ((dy:Nat):Int)≠nth (.int .i64) B ((dy:Nat):Int)→∃s∈m,s.1≤(dy:Int)∧(dy:Int)<s.2.1
theorem diff6(A B:Ze)(m:ZH)(hm:m.length≤1024):∀(n a:Nat)(e:Kn),1024 -a<n→a<1024→
 W (iq n (A,B,(a:Int),e,m)) (CT (fun r=>∃a':Nat,∃e':Kn,r=(A,B,(a':Int),e',m)∧a≤a'∧a'<1024∧nth (.int .i64) A ((a':Nat):Int)=nth (.int .i64) B ((a':Nat):Int)∧e'.1=e.1∧(e.2.1=(a:Int)∨a<a'→e'.2.1=(a':Int))) fun r=>∃e':Kn,r= .ret (.brk (m++[e']))∧e'.1=e.1∧e'.2.1=1024):=by
 intro n
 have hB:=hB
 induction n with
 |zero=>intro a e h;omega
 |
  succ n ih=>
  intro a e hn ha
  unfold iq at ih ⊢
  rw[aM]
  generalize aK _ n=rec at ih ⊢
  dsimp only
  have h3:(a:Int)<(1024:Int):=by omega
  have hw2:=ku a (by omega)
  rw[dQ a,aA h3,dQ a,aA h3,hw2]
  by_cases hab:nth (.int .i64) A ((a:Nat):Int)=nth (.int .i64) B ((a:Nat):Int)
  ·rw[aC (show¬(!decide (nth (.int .i64) A ((a:Nat):Int)=nth (.int .i64) B ((a:Nat):Int)))=true by rw[cC hab];decide)]
   exact⟨_,rfl,a,e,rfl,cq _,ha,hab,rfl,fun h=>h.elim id fun h=>absurd h (Nat.lt_irrefl _)⟩
  ·rw[aA (show(!decide (nth (.int .i64) A ((a:Nat):Int)=nth (.int .i64) B ((a:Nat):Int)))=true by rw[dF hab];rfl)]
   by_cases h4:a+1=1024
   ·have h5:((a+1:Nat):Int)=(1024:Int):=by omega
    rw[cI h5,aA (by rw[cS];omega)]
    exact⟨_,rfl,_,rfl,rfl,h5⟩
   ·have h5:¬((a+1:Nat):Int)=(1024:Int):=by omega
    rw[aC (fun h=>h5 (gN h))]
    refine(ih (a+1) (e.1,(((a+1:Nat):Int),e.2.2)) (by omega) (by omega)).ct (fun r hr=>?_) fun r hr=>?_
    ·obtain⟨a',e',rfl,g1,g2,g3,g4,g5⟩:=hr
     exact⟨a',e',rfl,by omega,g2,g3,g4,fun _=>g5 (Or.inl rfl)⟩
    ·exact hr
theorem diff2(A B:Ze):∀(n j:Nat)(m:ZH),1024 -j<n→j≤1024→COV A B j m→
 W (jq n (A,B,(j:Int),m)) (CT (fun L=>COV A B 1024 L) fun _=>False):=by
 intro n
 have hB:=hB
 induction n with
 |zero=>intro j m h;omega
 |
  succ n ih=>
  intro j m hn hj hm
  unfold jq at ih ⊢
  rw[aM]
  generalize aK _ n=rec at ih ⊢
  dsimp only
  by_cases h:j<1024
  ·have h3:(j:Int)<(1024:Int):=by omega
   have hw2:=ku j (by omega)
   rw[cI h3,dQ j,aA h3,dQ j,aA h3]
   by_cases hab:nth (.int .i64) A ((j:Nat):Int)=nth (.int .i64) B ((j:Nat):Int)
   ·rw[cI hab,aI]
    dsimp only
    rw[hw2]
    refine ih (j+1) m (by omega) (by omega) ⟨by have:=hm.1;omega,fun dy hdy hne=>?_⟩
    by_cases e:dy=j
    ·subst e;exact absurd hab hne
    ·exact hm.2 dy (by omega) hne
   ·rw[aC (fun h=>hab (gN h))]
    refine bY.2 (bY.2 ((diff6 A B m (by have:=hm.1;omega) fJ j ((j:Int),((0:Int),())) (by show _<18446744073709551616;omega) h).ct (fun r hr=>?_) fun r hr=>?_))
    ·obtain⟨a',e',rfl,g1,g2,g3,g4,g5⟩:=hr
     have g6:j<a':=by
      rcases Nat.lt_or_ge j a' with h|h
      ·exact h
      ·have:a'=j:=by omega
       subst this
       exact absurd g3 hab
     dsimp only
     rw[aA (show(m.length+List.length [e'])*16≤aE by rw[cS];have:=hm.1;omega)]
     refine⟨_,rfl,?_⟩
     refine ih a' (m++[e']) (by omega) (by omega) ⟨by rw[cN,cS];have:=hm.1;omega,fun dy hdy hne=>?_⟩
     by_cases e:dy<j
     ·obtain⟨s,hs,q⟩:=hm.2 dy e hne
      exact⟨s,gM _ hs,q⟩
     ·refine⟨e',oI _ (List.mem_singleton.2 rfl),?_,?_⟩
      ·have q:e'.1=(j:Int):=g4
       rw[q];omega
      ·have q:e'.2.1=(a':Int):=g5 (Or.inr g6)
       rw[q];omega
    ·obtain⟨e',rfl,g4,g5⟩:=hr
     show COV A B 1024 (m++[e'])
     refine⟨by rw[cN,cS];have:=hm.1;omega,fun dy hdy hne=>?_⟩
     by_cases e:dy<j
     ·obtain⟨s,hs,q⟩:=hm.2 dy e hne
      exact⟨s,gM _ hs,q⟩
     ·refine⟨e',oI _ (List.mem_singleton.2 rfl),?_,?_⟩
      ·have q:e'.1=(j:Int):=g4
       rw[q];omega
      ·have q:e'.2.1=1024:=g5
       rw[q];omega
  ·have e:j=1024:=by omega
   subst e
   rw[aC (by decide)]
   exact⟨_,rfl,hm⟩
theorem diff_eq(A B:Ze):∃L,lb A B=some L∧COV A B 1024 L:=by
 obtain⟨z,ez,hz⟩:=diff2 A B fJ 0 [] (by decide) (by omega) ⟨cq _,fun dy h=>absurd h (Nat.not_lt_zero _)⟩
 cases z with
 |ret r=>exact hz.elim
 |
  brk L=>
  refine⟨L,?_,hz⟩
  rw[yM]
  unfold nJ
  have ez':jq fJ (A,B,0,([]:ZH))=some (.brk L):=ez
  rw[ez',aI]
theorem group_eq(l:Zk)(hf:l.length≤1000000):∃ix:ZF,f22 l=some (some ix)∧∀key,bz bu (.slice 64 aP) key ix=keyF key l:=by
 have hB:=hB
 suffices hW:W (f22 l) fun r=>∃ix:ZF,r=some ix∧∀key,bz bu (.slice 64 aP) key ix=keyF key l by
  obtain⟨r,e,ix,rfl,h⟩:=hW
  exact⟨ix,e,h⟩
 unfold f22
 refine bY.2 (W.ct (cG (L:=Gi) rfl (CT (fun ix=>∀key,bz bu (.slice 64 aP) key ix=keyF key l) fun _=>False) l.length (fun c(ix:ZF)=>(l,(l.length:Int),(c:Int),ix)) (fun c ix=>ix.length≤2*c∧∀key,bz bu (.slice 64 aP) key ix=keyF key (l.take c)) ?step ?stop _ 0 [] (by omega) (by omega) ⟨gG _,fun key=>rfl⟩) (fun r hr=>⟨_,rfl,r,rfl,hr⟩) fun r hr=>hr.elim)
 case step=>
  rintro rec c ix hc ⟨hl,hI⟩ kk
  dsimp only
  have hw2:=ku c (by omega)
  have hcc:(c:Int)<(l.length:Int):=by omega
  rw[cI hcc,dQ c,aA hcc,dg (t:=aP) hc]
  have ht:=take_snoc l c hc
  generalize l[c]=x at ht ⊢
  have h1:(bz bu (.slice 64 aP) x.1 ix).length≤l.length:=by
   rw[hI x.1]
   exact da (qB ..) (by rw[fe];omega)
  rw[aA ((fM bu x.1 x.1).2 rfl),aA (show ix.length+1≤aE by omega),aA (show((bz bu (.slice 64 aP) x.1 ix).length+List.length [x])*64≤aE by rw[cS];omega),hw2]
  refine kk _ ⟨?_,fun key=>?_⟩
  ·have q1:(bE bu x.1 (Ty.aD (.slice 64 aP)) ix).length≤ix.length+1:=dA (kt:=bu)
   have q2:(bE bu x.1 (bz bu (.slice 64 aP) x.1 ix++[x]) (bE bu x.1 (Ty.aD (.slice 64 aP)) ix)).length≤(bE bu x.1 (Ty.aD (.slice 64 aP)) ix).length+1:=dA (kt:=bu)
   omega
  ·rw[ht,keyF_snoc]
   by_cases e:key=x.1
   ·subst e
    rw[ew (kt:=bu) (vt:=.slice 64 aP) rfl,hI,aA ((fM bu x.1 x.1).2 rfl)]
   ·rw[dB (kt:=bu) (vt:=.slice 64 aP) rfl e,dB (kt:=bu) (vt:=.slice 64 aP) rfl e,hI,aC (fun h=>e ((fM bu x.1 key).1 h).symm),eG]
 case stop=>
  rintro rec ix ⟨hl,hI⟩
  dsimp only
  rw[gK (by omega)]
  rw[List.take_length] at hI
  exact⟨_,rfl,hI⟩
theorem atF_key(l:Zk)(k:ib)(dy known:Int):mC (keyF k l) k dy known=mC l k dy known:=by
 have e:(keyF k l).filter (dw k known)=l.filter (dw k known):=by
  unfold keyF
  rw[List.filter_filter]
  refine List.filter_congr fun x _=>?_
  unfold dw
  cases aX bu x.1 k<;>simp
 unfold mC iB
 rw[e]
def Dk(l:Zk)(a b:Int)(k:ib):ZH:=(Option.bind (gX (keyF k l) k a) fun V=>Option.bind (gX (keyF k l) k b) fun X=>lb V X).getD []
theorem Dk_eq(l:Zk)(hl:l.length≤1000)(a b:Int)(k:ib):∃V X,gX (keyF k l) k a=some V∧gX (keyF k l) k b=some X∧lb V X=some (Dk l a b k)∧(Dk l a b k).length≤1024∧
 ∀dy<1024,mC l k ((dy:Nat):Int) a≠mC l k ((dy:Nat):Int) b→∃s∈Dk l a b k,s.1≤(dy:Int)∧(dy:Int)<s.2.1:=by
 have hk:(keyF k l).length≤1000:=da (qB ..) hl
 obtain⟨V,e1,v1,v2⟩:=paint_eq (keyF k l) k a hk
 obtain⟨X,e2,x1,x2⟩:=paint_eq (keyF k l) k b hk
 obtain⟨L,e3,c1,c2⟩:=diff_eq V X
 have eD:Dk l a b k=L:=by unfold Dk;rw[e1,aH,e2,aH,e3];rfl
 refine⟨V,X,e1,e2,by rw[eD];exact e3,by rw[eD];exact c1,fun dy hdy hne=>?_⟩
 rw[eD]
 refine c2 dy hdy fun he=>hne ?_
 rw[v2 dy hdy,x2 dy hdy] at he
 rw[←atF_key l,←atF_key l k _ b]
 exact at_of_PV he
def OKr(l:Zk)(a b:Int)(q:ko):Prop:=∀s∈Dk l a b q.1,¬imax s.1 q.2.1<nS s.2.1 q.2.2.1
theorem OKr.at'{l:Zk}(hl:l.length≤1000){a b:Int}{q:ko}(h:OKr l a b q){dy:Nat}(hdy:dy<1024)(h0:q.2.1≤(dy:Int))(h1:(dy:Int)<q.2.2.1):mC l q.1 ((dy:Nat):Int) a=mC l q.1 ((dy:Nat):Int) b:=by
 obtain⟨V,X,_,_,_,_,hc⟩:=Dk_eq l hl a b q.1
 refine Classical.byContradiction fun hne=>?_
 obtain⟨s,hs,s0,s1⟩:=hc dy hdy hne
 refine h s hs ?_
 unfold imax nS
 split<;>split<;>omega
theorem alike11(a b:Int)(M:Ix)(rs:Zh)(n i:Int)(q:ko)(t:IY)(L:ZH)(hL:L.length≤1024):
 W (vR (Int.toNat (List.length L:Int)+1) (a,b,M,rs,n,i,L,(List.length L:Int),0,q,t)) (CT (fun r=>r=(a,b,M,rs,n,i,t)∧∀s∈L,¬imax s.1 q.2.1<nS s.2.1 q.2.2.1) fun r=>r= .ret false):=by
 refine cG (L:=vR) rfl _ L.length (fun c(_:Unit)=>(a,b,M,rs,n,i,L,(L.length:Int),(c:Int),q,t)) (fun c _=>∀j(hj:j<L.length),j<c→¬imax L[j].1 q.2.1<nS L[j].2.1 q.2.2.1) ?step ?stop _ 0 () (by omega) (by omega) (fun j _ h=>absurd h (Nat.not_lt_zero _))
 case step=>
  intro rec c _ hc hI kk
  dsimp only
  have hw2:=ku c (by omega)
  have hcc:(c:Int)<(L.length:Int):=by omega
  rw[cI hcc,dQ c,aA hcc,dg (t:=ou) hc]
  by_cases h:imax L[c].1 q.2.1<nS L[c].2.1 q.2.2.1
  ·rw[cI h];exact⟨_,rfl,rfl⟩
  ·rw[aC (fun h'=>h (gN h')),hw2]
   refine kk () fun j hj hjc=>?_
   by_cases e:j=c
   ·subst e;exact h
   ·exact hI j hj (by omega)
 case stop=>
  intro rec _ hI
  dsimp only
  rw[gK (by omega)]
  refine⟨_,rfl,rfl,fun s hs=>?_⟩
  obtain⟨j,hj,rfl⟩:=iJ hs
  exact hI j hj hj
theorem alike_eq(l:Zk)(hl:l.length≤1000)(rs:Zh)(hr:rs.length≤1000000000)(a b:Int):∃r,f9 l rs a b=some r∧(r=true→∀q∈rs,OKr l a b q):=by
 have hB:=hB
 suffices hW:W (f9 l rs a b) fun r=>r=true→∀q∈rs,OKr l a b q by
  obtain⟨r,e,h⟩:=hW
  exact⟨r,e,h⟩
 obtain⟨ix,e1,hix⟩:=group_eq l (by omega)
 unfold f9
 rw[e1,aH]
 refine bY.2 (W.ct (cG (L:=J3) rfl (CT (fun _=>∀j(hj:j<rs.length),OKr l a b rs[j]) fun r=>r=false) rs.length (fun c(t:IY)=>(a,b,some ix,rs,(rs.length:Int),(c:Int),t)) (fun c t=>t.length≤c∧(∀k,cJ bu k t=true→bz bu (.slice 16 ou) k t=Dk l a b k)∧∀j(hj:j<rs.length),j<c→OKr l a b rs[j]) ?step ?stop _ 0 [] (by omega) (by omega) ⟨cq _,fun k h=>(by cases h),fun j _ h=>absurd h (Nat.not_lt_zero _)⟩) (fun r hr=>?_) fun r hr=>?_)
 case step=>
  rintro rec c t hc ⟨ht,hC,hI⟩ kk
  dsimp only
  have hw2:=ku c (by omega)
  have hcc:(c:Int)<(rs.length:Int):=by omega
  rw[cI hcc,dQ c,aA hcc,dg (t:=bx) hc]
  have hI2:OKr l a b rs[c]→∀j(hj:j<rs.length),j<c+1→OKr l a b rs[j]:=fun h j hj hjc=>by
   by_cases e:j=c
   ·subst e;exact h
   ·exact hI j hj (by omega)
  generalize rs[c]=q at hI2 ⊢
  obtain⟨V,X,p1,p2,p3,p4,_⟩:=Dk_eq l hl a b q.1
  have fin:∀t':IY,t'.length≤c+1→(∀k,cJ bu k t'=true→bz bu (.slice 16 ou) k t'=Dk l a b k)→bz bu (.slice 16 ou) q.1 t'=Dk l a b q.1→
   W (vR (Int.toNat (List.length (bz bu (.slice 16 ou) q.1 t'):Int)+1) (a,b,some ix,rs,(rs.length:Int),(c:Int),bz bu (.slice 16 ou) q.1 t',(List.length (bz bu (.slice 16 ou) q.1 t'):Int),0,q,t')) (CT (fun d=>W (rec (d.1,d.2.1,d.2.2.1,d.2.2.2.1,d.2.2.2.2.1,aZ (d.2.2.2.2.2.1+(1:Int)),d.2.2.2.2.2.2)) (CT (fun _=>∀j(hj:j<rs.length),OKr l a b rs[j]) fun r=>r=false)) (CT (fun _=>∀j(hj:j<rs.length),OKr l a b rs[j]) fun r=>r=false)):=fun t' h1 h2 h3=>by
   rw[h3]
   refine(alike11 a b (some ix) rs (rs.length:Int) (c:Int) q t' (Dk l a b q.1) p4).ct (fun d hd=>?_) fun r hr=>?_
   ·obtain⟨rfl,hd⟩:=hd
    dsimp only
    rw[hw2]
    exact kk t' ⟨h1,h2,hI2 hd⟩
   ·subst hr;exact rfl
  refine bY.2 ?_
  cases hm:cJ bu q.1 t with
  |
   true=>
   rw[aC (show¬(!true)=true by decide),aI]
   exact fin t (by omega) hC (hC _ hm)
  |
   false=>
   have e2:bz bu (.slice 64 aP) q.1 (bU (some ix))=keyF q.1 l:=hix q.1
   rw[aA (show(!false)=true from rfl),e2,p1,aH,p2,aH,p3,aH,aA (show t.length+1≤aE by omega),aI]
   refine fin (bE bu q.1 (Dk l a b q.1) t) (da (dA (kt:=bu)) (by omega)) (fun k hk=>?_) (ew (kt:=bu) (vt:=.slice 16 ou) rfl _ _ _)
   by_cases e:k=q.1
   ·subst e;exact ew (kt:=bu) (vt:=.slice 16 ou) rfl _ _ _
   ·rw[kU (kt:=bu) rfl e] at hk
    rw[dB (kt:=bu) (vt:=.slice 16 ou) rfl e]
    exact hC k hk
 case stop=>
  rintro rec t ⟨ht,hC,hI⟩
  dsimp only
  rw[gK (by omega)]
  exact⟨_,rfl,fun j hj=>hI j hj hj⟩
 ·refine⟨_,rfl,fun _ q hq=>?_⟩
  obtain⟨j,hj,rfl⟩:=iJ hq
  exact hr j hj
 ·subst hr;exact fun h=>(by cases h)
abbrev fkey(a p i:Int)(c:Nat):ib:=(a,(p,(aZ ((aZ ((16:Int)*i))+(c:Int)),())))
abbrev fread(a p i d:Int)(c:Nat):ko:=(fkey a p i c,(d,(aZ (d+(1:Int)),())))
theorem look_two(T:CN)(L1 L2:Zk)(s:cY)(hN:NB s)(h1:L1.length≤aE)(h2:L2.length≤aE)(c:Nat)(a p i d k1 k2:Int)(rs:Zh)(hr:(rs.length+1)*40≤aE):
 ∃x b,kS (c:Int) a p i d (T,(L1,())) k1 s rs=some (x,b,a,p,i,d,(T,(L1,())),k1,s,rs++[fread a p i d c])∧
  (mC L1 (fkey a p i c) d k1=mC L2 (fkey a p i c) d k2→kS (c:Int) a p i d (T,(L2,())) k2 s rs=some (x,b,a,p,i,d,(T,(L2,())),k2,s,rs++[fread a p i d c])):=by
 have key:∀(L:Zk)(k:Int),L.length≤aE→kS (c:Int) a p i d (T,(L,())) k s rs=some ((mC L (fkey a p i c) d k).1,(if(mC L (fkey a p i c) d k).2=true then(f54 s a (c:Int) (mC L (fkey a p i c) d k).1).getD false else false),a,p,i,d,(T,(L,())),k,s,rs++[fread a p i d c]):=by
  intro L k hL
  have e:xS L (fkey a p i c) d k=some (mC L (fkey a p i c) d k):=aA hL
  have e':xS (T,(L,())).2.1 (a,(p,(aZ ((aZ ((16:Int)*i))+(c:Int)),()))) d k=some (mC L (fkey a p i c) d k):=e
  unfold kS f52
  rw[aH,aA (by rw[cS];exact hr),e',aH]
  generalize mC L (fkey a p i c) d k=r
  obtain⟨x,b⟩:=r
  dsimp only
  cases b with
  |false=>rfl
  |
   true=>
   obtain⟨q,hq⟩:=value_ans s hN a (c:Int) x
   rw[aA rfl,aA rfl,hq]
   rfl
 refine⟨_,_,key L1 k1 h1,fun h=>?_⟩
 rw[key L2 k2 h2,←h]
theorem recAt_two(T:CN)(L1 L2:Zk)(hN:NB T.1)(hR:T.1.2.2.2.1.length≤aE)(hF:∀a,0≤a→a<(T.1.2.2.1.length:Int)→(flds T.1 a).length≤1000)(h1:L1.length≤aE)(h2:L2.length≤aE)(a p i d k1 k2:Int)(Gd:ko→Prop)
 (hat:∀c:Nat,0≤a→a<(T.1.2.2.1.length:Int)→c<(flds T.1 a).length→0≤i→i<4→0≤d→d<1024→Gd (fread a p i d c)→mC L1 (fkey a p i c) d k1=mC L2 (fkey a p i c) d k2):
 W (f33 (T,(L1,())) a p i d k1) fun r=>(∀q∈r.2.2,Gd q)→f33 (T,(L2,())) a p i d k2=some r:=by
 have hB:=hB
 unfold f33
 obtain⟨b,e,hb⟩:=recorded_eq T.1 hR a
 have e1:f49 (T,(L1,())).1.1 a=some b:=e
 rw[e1,aH]
 cases b with
 |false=>exact⟨_,rfl,fun _=>rfl⟩
 |
  true=>
  obtain⟨a0,a1,a2⟩:=hb rfl
  rw[aC (by decide)]
  have hs:∃z,f50 p i=some z∧(z=true→0≤i∧i<4):=by
   unfold f50
   by_cases i0:0≤i
   ·by_cases i1:i<4
    ·have yes:∀y:Zl,(∃z,y=some z)→∃z,y=some z∧(z=true→0≤i∧i<4):=fun y ⟨z,hz⟩=>⟨z,hz,fun _=>⟨i0,i1⟩⟩
     apply yes
     refine bindT ?_ fun v=>⟨v,rfl⟩
     repeat' (first|exact⟨_,rfl⟩|split)
    ·rw[cC i0,dF i1]
     have no:∀y:Zl,y=some false→∃z,y=some z∧(z=true→0≤i∧i<4):=fun y hy=>⟨false,hy,fun h=>(by cases h)⟩
     apply no
     split
     ·split<;>rfl
     ·rfl
   ·rw[dF i0]
    have no:∀y:Zl,y=some false→∃z,y=some z∧(z=true→0≤i∧i<4):=fun y hy=>⟨false,hy,fun h=>(by cases h)⟩
    apply no
    split
    ·split<;>rfl
    ·rfl
  obtain⟨z,hz,hzi⟩:=hs
  rw[hz,aH]
  cases z with
  |false=>exact⟨_,rfl,fun _=>rfl⟩
  |
   true=>
   obtain⟨i0,i1⟩:=hzi rfl
   rw[aC (by decide)]
   by_cases d0:d<0
   ·rw[cI d0];exact⟨_,rfl,fun _=>rfl⟩
   ·have d0':¬decide (d<(0:Int))=true:=by simpa using d0
    rw[aC d0']
    by_cases d1:(1024:Int)≤d
    ·rw[cC d1];exact⟨_,rfl,fun _=>rfl⟩
    ·rw[dF d1,aH,aH,aC (by decide),aC (by decide),aI,aI]
     dsimp only
     have hFa:=hF a a0 a1
     have ef:(nth bJ T.1.2.2.1 a).2.2.2.2.1=flds T.1 a:=rfl
     have key:=z8 (L1:=nK) rfl (L2:=nK) rfl
      (fun(s:Ze×Zh)(c:Uh)(y:Option Uh)=>
       ∃rs:Zh,(∀q∈s.2,q∈rs)∧((∃t,c= .brk (a,p,i,0,0,0,t,rs))∨∃x,c= .ret (false,x,rs))∧((∀q∈rs,Gd q)→y=some c))
      (flds T.1 a).length (fun c(u:Ze×Zh)=>((c:Int),(T,(L1,())),a,p,i,d,k1,0,0,0,T.1,u.1,u.2)) (fun c(u:Ze×Zh)=>((c:Int),(T,(L2,())),a,p,i,d,k2,0,0,0,T.1,u.1,u.2)) (fun c u=>u.1.length=c∧u.2.length≤c) ?step ?stop fJ 1 ([p],[]) (by show _<18446744073709551616;omega) (by omega) ⟨rfl,gG _⟩
     case step=>
      rintro rec1 rec2 c ⟨t,s⟩ hc ⟨ht,hs⟩ kk
      dsimp only at ht hs ⊢
      have hw2:=ku c (by omega)
      have hcf:(c:Int)<((flds T.1 a).length:Int):=by omega
      rw[ef,aA a0,aA a1,cI hcf,aA a0,aA a1,cI hcf]
      obtain⟨x,b,g1,g2⟩:=look_two T L1 L2 T.1 hN h1 h2 c a p i d k1 k2 s (by omega)
      have g3:Gd (fread a p i d c)→kS (c:Int) a p i d (T,(L2,())) k2 T.1 s=some (x,b,a,p,i,d,(T,(L2,())),k2,T.1,s++[fread a p i d c]):=fun hG=>g2 (hat c a0 a1 hc i0 i1 (Int.not_lt.1 d0) (Int.not_le.1 d1) hG)
      rw[g1,aH]
      dsimp only
      have hl8:(t.length+List.length [x])*8≤aE:=by rw[cS];omega
      have acp:fread a p i d c∈s++[fread a p i d c]:=oI _ (List.mem_singleton.2 rfl)
      cases b with
      |
       false=>
       rw[aA (show(!false)=true from rfl)]
       refine⟨_,rfl,s++[fread a p i d c],fun q hq=>gM _ hq,Or.inr ⟨_,rfl⟩,fun hG=>?_⟩
       rw[g3 (hG _ acp),aH]
       rfl
      |
       true=>
       rw[aC (show¬(!true)=true by decide),aA hl8,hw2]
       refine(kk (t++[x],s++[fread a p i d c]) ⟨by rw[cN,cS,ht],by rw[cN,cS];omega⟩).mono fun cc hcc=>?_
       obtain⟨rs,q1,q2,q3⟩:=hcc
       refine⟨rs,fun q hq=>q1 q (gM _ hq),q2,fun hG=>?_⟩
       rw[g3 (hG _ (q1 _ acp)),aH]
       dsimp only
       rw[aC (show¬(!true)=true by decide),aA hl8]
       exact q3 hG
     case stop=>
      rintro rec1 rec2 ⟨t,s⟩ ⟨ht,hs⟩
      dsimp only at ht hs ⊢
      have hne:¬decide (((flds T.1 a).length:Int)<((flds T.1 a).length:Int))=true:=by simp only[ik];omega
      rw[ef,aA a0,aA a1,aC hne,aA a0,aA a1,aC hne]
      exact⟨_,rfl,s,fun _ h=>h,Or.inl ⟨t,rfl⟩,fun _=>rfl⟩
     obtain⟨cc,ec,rs,q1,q2,q3⟩:=key
     have ec':nK fJ ((1:Int),(T,(L1,())),a,p,i,d,k1,0,0,0,T.1,[p],([]:Zh))=some cc:=ec
     rw[ec']
     rcases q2 with⟨t,rfl⟩|⟨x,rfl⟩
     ·refine⟨_,rfl,fun hG=>?_⟩
      have g5:nK fJ ((1:Int),(T,(L2,())),a,p,i,d,k2,0,0,0,T.1,[p],([]:Zh))=_:=q3 hG
      rw[g5]
      rfl
     ·refine⟨_,rfl,fun hG=>?_⟩
      have g5:nK fJ ((1:Int),(T,(L2,())),a,p,i,d,k2,0,0,0,T.1,[p],([]:Zh))=_:=q3 hG
      rw[g5]
      rfl
theorem flat_nil{β:Type}{g:Nat→List β}:∀n:Nat,(∀c<n,g c= [])→(List.range n).flatMap g= []
 |0,_=>rfl
 |
  n+1,h=>by
  rw[List.range_succ,List.flatMap_append,flat_nil n fun c hc=>h c (by omega),List.flatMap_cons,List.flatMap_nil,h n (by omega)]
  rfl
theorem flat_one{β:Type}{g:Nat→List β}{c:Nat}:∀n:Nat,c<n→(∀x<n,x≠c→g x= [])→(List.range n).flatMap g=g c
 |0,h,_=>by omega
 |
  n+1,h,hx=>by
  rw[List.range_succ,List.flatMap_append,List.flatMap_cons,List.flatMap_nil,eG]
  by_cases e:c=n
  ·subst e
   rw[flat_nil _ fun x hx'=>hx x (by omega) (by omega),gO]
  ·rw[flat_one n (by omega) fun x hx'=>hx x (by omega),hx n (by omega) (by omega),eG]
def placeL(s:cY)(l:Zk)(p:Pl):Zk:=if 0≤p.1∧p.1<(s.2.2.1.length:Int) then(List.range (flds s p.1).length).flatMap fun(c:Nat)=>keyF (fkey p.1 p.2.1 p.2.2.1 c) l else[]
theorem aboutL_eq(s:cY)(l:Zk)(ix:ZF)(h:∀key,bz bu (.slice 64 aP) key ix=keyF key l)(p:Pl):aboutL s (some ix) p=placeL s l p:=by
 have e:(fun(c:Nat)=>bz bu (.slice 64 aP) (p.1,(p.2.1,(aZ ((aZ ((16:Int)*p.2.2.1))+(c:Int)),()))) (bU (some ix)))=fun(c:Nat)=>keyF (fkey p.1 p.2.1 p.2.2.1 c) l:=funext fun c=>h _
 unfold aboutL placeL
 rw[e]
theorem fkey_inj{a p i:Int}(i0:0≤i)(i1:i<4){c e:Nat}(hc:c≤1000)(he:e≤1000)(h:fkey a p i c=fkey a p i e):c=e:=by
 have h1:aZ ((aZ ((16:Int)*i))+(c:Int))=aZ ((aZ ((16:Int)*i))+(e:Int)):=cV (fun k:ib=>k.2.2.1) h
 rw[fu (x:=(16:Int)*i) (by omega) (by omega),fu (by omega) (by omega),fu (by omega) (by omega)] at h1
 omega
theorem at_place(s:cY)(l:Zk){a p i:Int}(a0:0≤a)(a1:a<(s.2.2.1.length:Int))(hF:(flds s a).length≤1000)(i0:0≤i)(i1:i<4){c:Nat}(hc:c<(flds s a).length)(d k:Int):
 mC (placeL s l (a,(p,(i,())))) (fkey a p i c) d k=mC l (fkey a p i c) d k:=by
 have e:(placeL s l (a,(p,(i,())))).filter (dw (fkey a p i c) k)=l.filter (dw (fkey a p i c) k):=by
  have e1:placeL s l (a,(p,(i,())))=(List.range (flds s a).length).flatMap fun(c:Nat)=>keyF (fkey a p i c) l:=aA ⟨a0,a1⟩
  rw[e1,List.filter_flatMap]
  rw[flat_one (c:=c) _ hc fun x hx hne=>?_]
  ·unfold keyF
   rw[List.filter_filter]
   refine List.filter_congr fun x _=>?_
   unfold dw
   cases aX bu x.1 (fkey a p i c)<;>simp
  ·unfold keyF
   rw[List.filter_filter]
   refine List.filter_eq_nil_iff.2 fun y _=>?_
   intro h
   have h:=Bool.and_eq_true_iff.1 h
   have h1:=(Bool.and_eq_true_iff.1 h.1).1
   have q1:=(fM bu y.1 (fkey a p i c)).1 h1
   have q2:=(fM bu y.1 (fkey a p i x)).1 h.2
   exact hne (fkey_inj i0 i1 (by omega) (by omega) (q2.symm.trans q1))
 unfold mC iB
 rw[e]
theorem okr_at{l:Zk}(hl:l.length≤1000){b e a p i d:Int}{c:Nat}(d0:0≤d)(d1:d<1024)(h:OKr l b e (fread a p i d c)):mC l (fkey a p i c) d b=mC l (fkey a p i c) d e:=by
 have hw:aZ (d+(1:Int))=d+1:=fu (by omega) (by omega)
 have ed:((d.toNat:Nat):Int)=d:=by omega
 have:=h.at' hl (dy:=d.toNat) (by omega) (by show d≤_;omega) (by show _<aZ (d+(1:Int));rw[hw];omega)
 rw[ed] at this
 exact this
theorem rec_two(w:bO)(hs:SA w.1.1)(hT:FT w.1.1)(hf:w.2.1.length≤30)(a p i d k1 k2:Int):
 W (f33 w a p i d k1) fun r=>(∀q∈r.2.2,OKr w.2.1 k1 k2 q)→f33 w a p i d k2=some r:=by
 have hB:=hB
 exact recAt_two w.1 w.2.1 w.2.1 hs.sw.nb hs.sw.rules (fun a a0 a1=>da (hT.fields _ (dM (t:=bJ) (l:=w.1.1.2.2.1) a0 a1)) (by decide)) (by omega) (by omega) a p i d k1 k2 (OKr w.2.1 k1 k2) fun c a0 a1 hc i0 i1 d0 d1 hG=>okr_at (by omega) d0 d1 hG
theorem T2_alike{w:bO}{lo:Ze}(hc:CG w.1.1 lo)(hT:FT w.1.1)(hf:w.2.1.length≤30)(p:Int)(x:Pl){i1 i2:ZF}(h1:∀key,bz bu (.slice 64 aP) key i1=keyF key w.2.1)(h2:∀key,bz bu (.slice 64 aP) key i2=keyF key w.2.1)(d k1 k2:Int):
 T2 w (some i1) k1 w (some i2) k2 lo (CO w p) (Uo w p x) d (OKr w.2.1 k1 k2):=by
 have hB:=hB
 have hix:∀i:ZF,(∀key,bz bu (.slice 64 aP) key i=keyF key w.2.1)→IX (CO w p) (some i):=fun i hi key=>by
  have e:bz bu (.slice 64 aP) key (bU (some i))=keyF key w.2.1:=hi key
  rw[e]
  have hle:(keyF key w.2.1).length≤w.2.1.length:=qB ..
  exact⟨by omega,fun f hf=>dr _ (dr _ (gM _ (List.mem_map.2 ⟨f,(List.mem_filter.1 hf).1,rfl⟩)))⟩
 have hw1:=UD hc hT hf p x (hix i1 h1)
 have hw2:=UD hc hT hf p x (hix i2 h2)
 refine⟨hw1,hw2,rfl,fun y r hr hG=>?_⟩
 rw[aboutL_eq w.1.1 w.2.1 i1 h1] at hr
 rw[aboutL_eq w.1.1 w.2.1 i2 h2]
 have hpl:(placeL w.1.1 w.2.1 y).length≤aE:=by
  obtain⟨L,e,hL,_⟩:=about_eq hw1 y d k1 true none () [] [] []
  rw[about_u hw1 y d k1 true none () [] [] []] at e
  have e:=iL e
  simp only[ff,true_and,and_true] at e
  rw[aboutL_eq w.1.1 w.2.1 i1 h1] at e
  rw[e]
  omega
 obtain⟨r',er,h⟩:=recAt_two w.1 (placeL w.1.1 w.2.1 y) (placeL w.1.1 w.2.1 y) hc.sw.nb hc.sw.rules hw1.fl hpl hpl y.1 y.2.1 y.2.2.1 d k1 k2 (OKr w.2.1 k1 k2) fun c a0 a1 hcf i0 i1' d0 d1 hG=>by
  have q1:=at_place w.1.1 w.2.1 (p:=y.2.1) a0 a1 (hw1.fl _ a0 a1) i0 i1' hcf d k1
  have q2:=at_place w.1.1 w.2.1 (p:=y.2.1) a0 a1 (hw1.fl _ a0 a1) i0 i1' hcf d k2
  exact q1.trans ((okr_at (by omega) d0 d1 hG).trans q2.symm)
 rw[hr] at er
 cases er
 exact h hG
theorem search_two(w:bO)(hs:SA w.1.1)(hT:FT w.1.1)(hf:w.2.1.length≤30)(a p d k1 k2:Int):
 W (f55 w a p d k1) fun r=>r.1.length≤1000000000∧((∀q∈r.1,OKr w.2.1 k1 k2 q)→f55 w a p d k2=some r):=by
 have hB:=hB
 obtain⟨r,e,hc⟩:=check_eq w.1 hs
 obtain⟨i1,e1,h1⟩:=newF_u w (by omega) hs.sw.rules d k1 (decide (r=(0:Int)))
 obtain⟨i2,e2,h2⟩:=newF_u w (by omega) hs.sw.rules d k2 (decide (r=(0:Int)))
 unfold f55
 rw[e,aH,aH,e1,e2,aH,aH]
 dsimp only
 have hy:∃y,(∀ix k,oj a p w ix d k (decide (r=(0:Int))) (some (derM w.1.1.2.2.2.1)) () [] [] []=some (y,w,ix,d,k,decide (r=(0:Int)),some (derM w.1.1.2.2.2.1),(),[],[],[]))∧(y=true→r=0):=by
  obtain⟨y,ey,hy⟩:=vD a p w (some i1) d k1 (decide (r=(0:Int))) (some (derM w.1.1.2.2.2.1)) () [] [] []
  refine⟨y,fun ix k=>?_,fun h=>gN (hy h).1⟩
  unfold oj at ey ⊢
  obtain⟨v,hv,hv2⟩:=bind_some ey
  rw[hv]
  have e:=iL hv2
  simp only[ff,and_true] at e
  rw[e]
  rfl
 obtain⟨y,ey,hyr⟩:=hy
 rw[ey,ey,aH,aH]
 dsimp only
 cases y with
 |false=>exact⟨_,rfl,gG _,fun _=>rfl⟩
 |
  true=>
  rw[aC (by decide),aC (by decide)]
  obtain⟨lo,hcg⟩:=hc (hyr rfl)
  have H:=T2_alike hcg hT hf p (a,(p,((0:Int),()))) h1 h2 d k1 k2
  have hl:=hcg.rk.len
  have hm:=hcg.tg.many
  have hi:lo.idxOf a≤lo.length:=List.idxOf_le_length
  have hU:(a,(p,((0:Int),())))∈Uo w p (a,(p,((0:Int),()))):=cK ..
  have hP:p∈CO w p:=dr _ (cK ..)
  have hbig:5*(lo.idxOf a+1)≤fJ:=by
   show _≤18446744073709551616
   omega
  obtain⟨r1,er1,_⟩:=lookk_eq H.h1 d k1 (decide (r=(0:Int))) (some (derM w.1.1.2.2.2.1)) () (a,(p,((0:Int),()))) (FI.nil _ _ _) (fun q hq=>(by cases hq)) hU hP
  obtain⟨r2,er2,_⟩:=lookk_eq H.h2 d k2 (decide (r=(0:Int))) (some (derM w.1.1.2.2.2.1)) () (a,(p,((0:Int),()))) (FI.nil _ _ _) (fun q hq=>(by cases hq)) hU hP
  have eo1:=Bs er1
  have eo2:=Bs er2
  obtain⟨r3,er3,fo',se',x,rs',hr3,hFI,_,_,_,hy⟩:=(knot2 H (decide (r=(0:Int))) (some (derM w.1.1.2.2.2.1)) () fJ).1 (a,(p,((0:Int),()))) [] [] [] (FI.nil _ _ _) (fun q hq=>(by cases hq)) hU hP hbig
  have eo3:kg (a,(p,((0:Int),()))) w (some i1) d k1 (decide (r=(0:Int))) (some (derM w.1.1.2.2.2.1)) () [] [] []=some r3:=er3
  rw[eo1] at eo3
  cases eo3
  subst hr3
  rw[er1,aH]
  have hfo:=hFI.len
  have hfr:=hFI.rs
  have hUl:=H.h1.len
  refine⟨_,rfl,(by show rs'.length≤_;omega),fun hG=>?_⟩
  have eo4:kg (a,(p,((0:Int),()))) w (some i2) d k2 (decide (r=(0:Int))) (some (derM w.1.1.2.2.2.1)) () [] [] []=_:=hy hG
  rw[eo2] at eo4
  rw[er2,eo4]
  rfl
theorem of_two(w:bO)(hs:SA w.1.1)(hT:FT w.1.1)(hf:w.2.1.length≤30)(a p d k1 k2:Int):
 ∃rs ok x,f34 w a p d k1=some (rs,ok,x)∧rs.length≤1000000000∧((∀q∈rs,OKr w.2.1 k1 k2 q)→f34 w a p d k2=some (rs,ok,x)):=by
 obtain⟨r,e,hl,h⟩:=search_two w hs hT hf a p d k1 k2
 refine⟨r.1,r.2.2.2.2.1,r.2.1,?_,hl,fun hG=>?_⟩
 ·unfold f34;rw[e];rfl
 ·unfold f34;rw[h hG];rfl
theorem cred_two(w:bO)(hs:SA w.1.1)(hT:FT w.1.1)(hf:w.2.1.length≤30)(a p i d k1 k2:Int):
 ∃rs ok x,f39 w a p i d k1=some (rs,ok,x)∧rs.length≤1000000000∧((∀q∈rs,OKr w.2.1 k1 k2 q)→f39 w a p i d k2=some (rs,ok,x)):=by
 obtain⟨⟨ok,x,rs⟩,e4,h4⟩:=rec_two w hs hT hf a p i d k1 k2
 obtain⟨rs1,ok1,x1,e5,l5,h5⟩:=of_two w hs hT hf a p d k1 k2
 have l4:rs.length≤1000:=by
  have hB:=hB
  obtain⟨r',er',hl,_⟩:=recAt_eq (PS:=CO w p) w hs.sw.nb hs.sw.rules (fun a a0 a1=>da (hT.fields _ (dM (t:=bJ) (l:=w.1.1.2.2.1) a0 a1)) (by decide)) (by omega) (fun f hf=>dr _ (dr _ (gM _ (List.mem_map.2 ⟨f,hf,rfl⟩)))) a p i d k1 (dr _ (cK ..))
  rw[e4] at er'
  cases er'
  exact hl
 rcases qU w.1.1 hs.sw.rules a with⟨e1,_⟩|⟨e1,_⟩
 ·by_cases hi:i=0
  ·have hne:¬(!decide (i=(0:Int)))=true:=by simp[hi]
   refine⟨rs1,ok1,x1,?_,l5,fun hG=>?_⟩
   ·unfold f39 f65
    rw[e1,aH,aA (by decide),aA (by decide),aC (by decide),aA rfl,aC hne,e5];rfl
   ·unfold f39 f65
    rw[e1,aH,aA (by decide),aA (by decide),aC (by decide),aA rfl,aC hne,h5 hG];rfl
  ·have hne:(!decide (i=(0:Int)))=true:=by simp[hi]
   refine⟨[],false,((0:Int),((0:Int),((0:Int),(([]:Ze),())))),?_,gG _,fun hG=>?_⟩
   ·unfold f39 f65
    rw[e1,aH,aA (by decide),aA (by decide),aC (by decide),aA rfl,aA hne];rfl
   ·unfold f39 f65
    rw[e1,aH,aA (by decide),aA (by decide),aC (by decide),aA rfl,aA hne];rfl
 ·refine⟨rs,ok,x,?_,(by omega),fun hG=>?_⟩
  ·unfold f39
   rw[e1,aH,aA (by decide),aA (by decide),aA rfl,e4];rfl
  ·unfold f39
   rw[e1,aH,aA (by decide),aA (by decide),aA rfl,h4 hG];rfl
theorem sameReads_self(l:Zh)(hl:l.length≤1000000000):f10 l l=some true:=by
 have hB:=hB
 suffices hW:W (f10 l l) fun r=>r=true by
  obtain⟨r,e,rfl⟩:=hW
  exact e
 unfold f10
 rw[aC (show¬(!decide ((l.length:Int)=(l.length:Int)))=true by simp)]
 refine bY.2 (W.ct (cG (L:=D6) rfl (CT (fun _=>True) fun r=>r=true) l.length (fun c(_:Unit)=>(l,l,(c:Int))) (fun _ _=>True) ?step ?stop fJ 0 () (by show _<18446744073709551616;omega) (by omega) trivial) (fun d _=>⟨_,rfl,rfl⟩) fun r hr=>hr)
 case step=>
  intro rec c _ hc _ kk
  dsimp only
  have hw2:=ku c (by omega)
  have hcc:(c:Int)<(l.length:Int):=by omega
  rw[cI hcc,dQ c,aA hcc,dQ c,aA hcc,(fM bx _ _).2 rfl,aC (by decide),hw2]
  exact kk () trivial
 case stop=>
  intro rec _ _
  dsimp only
  rw[gK (by omega)]
  exact⟨_,rfl,trivial⟩
theorem sameInts_self(l:Ze)(hl:l.length≤1000000000):f11 l l=some true:=by
 have hB:=hB
 suffices hW:W (f11 l l) fun r=>r=true by
  obtain⟨r,e,rfl⟩:=hW
  exact e
 unfold f11
 rw[aC (show¬(!decide ((l.length:Int)=(l.length:Int)))=true by simp)]
 refine bY.2 (W.ct (cG (L:=D7) rfl (CT (fun _=>True) fun r=>r=true) l.length (fun c(_:Unit)=>(l,l,(c:Int))) (fun _ _=>True) ?step ?stop fJ 0 () (by show _<18446744073709551616;omega) (by omega) trivial) (fun d _=>⟨_,rfl,rfl⟩) fun r hr=>hr)
 case step=>
  intro rec c _ hc _ kk
  dsimp only
  have hw2:=ku c (by omega)
  have hcc:(c:Int)<(l.length:Int):=by omega
  rw[cI hcc,dQ c,aA hcc,dQ c,aA hcc,aC (show¬(!decide (nth (.int .i64) l (c:Int)=nth (.int .i64) l (c:Int)))=true by simp),hw2]
  exact kk () trivial
 case stop=>
  intro rec _ _
  dsimp only
  rw[gK (by omega)]
  exact⟨_,rfl,trivial⟩
theorem lawAlike_eq(w:bO)(p:mX)(b a:Int)(hs:SA w.1.1)(hpl:(gV p).length≤aE):f3 w p b a=some true:=by
 have hB:=hB
 unfold f3
 rw[GA,aH,aC (by decide)]
 obtain⟨r,e,hr⟩:=I4 w [p] hs.ss (by rw[cS];omega)
 rw[e,aH]
 cases r with
 |false=>rfl
 |
  true=>
  have hw:=hr rfl
  have hfl:(gV p).length≤16:=hw.fields p (List.mem_singleton.2 rfl)
  rw[aC (by decide)]
  have hpp:=Oq w hs hw.ft hw.facts b a p hfl
  have hn:=Bj w b a [p] (fun q hq=>by rw[List.mem_singleton.1 hq];exact hpp) (by rw[cS];omega)
  obtain⟨rs,ok,x,c1,cl,c2⟩:=cred_two w hs hw.ft hw.facts p.2.2.1 p.2.2.2.1 p.2.2.2.2.1 p.2.2.2.2.2.1 b a
  obtain⟨f,ef,hf⟩:=vE p (by omega)
  cases f with
  |
   false=>
   have t:∀k,f8 w p k=some (false,[]):=fun k=>by unfold f8;rw[ef,aH];rfl
   have hcl:f25 (gV p)=some (gV p):=gL _ _ (by omega)
   have ww:∀k,f12 w p k=some (gV p):=fun k=>by
    unfold f12
    rw[ef,aH,aA (by decide)]
    have hcl':f25 p.2.2.2.2.2.2.2.1=some (gV p):=hcl
    rw[hcl']
    rfl
   have hAN:AN w b a [p]= []:=by
    have t1:tB w b p=false:=by unfold tB;rw[t b];rfl
    rw[xJ]
    unfold Oo
    rw[t1,aC (by simp)]
    rfl
   rw[hAN] at hn
   rw[t b,aH]
   dsimp only
   rw[t a,aH]
   dsimp only
   obtain⟨y,ey,_⟩:=alike_eq w.2.1 (by have:=hw.facts;omega) [] (by simp) b a
   rw[ey,aH]
   cases y with
   |false=>rfl
   |
    true=>
    rw[aC (by decide),aA (by decide),sameReads_self [] (by simp),aH,aA rfl,ww b,aH,ww a,aH,sameInts_self (gV p) (by omega),aH,aA rfl,hn]
    rfl
  |
   true=>
   have hp:=hf rfl
   have hx1:=lq w p b hp hfl c1
   have t1:f8 w p b=some ((if ok=true then decide (((WL ok x.2.2.2.1 p (gV p).length).length:Int)=(0:Int)) else false),rs):=by
    unfold f8
    rw[ef,aH,aC (by decide),hx1,aH]
    cases ok<;>rfl
   rw[t1,aH]
   dsimp only
   obtain⟨r2,e2⟩:=hpp.is
   have e2':f8 w p a=some (tB w a p,r2):=e2
   rw[e2',aH]
   dsimp only
   obtain⟨y,ey,hy⟩:=alike_eq w.2.1 (by have:=hw.facts;omega) rs cl b a
   rw[ey,aH]
   cases y with
   |false=>rfl
   |
    true=>
    have c3:=c2 (hy rfl)
    have hx2:=lq w p a hp hfl c3
    have t2:f8 w p a=some ((if ok=true then decide (((WL ok x.2.2.2.1 p (gV p).length).length:Int)=(0:Int)) else false),rs):=by
     unfold f8
     rw[ef,aH,aC (by decide),hx2,aH]
     cases ok<;>rfl
    rw[t2] at e2'
    have q1:=cV Prod.fst (iL e2')
    have q2:=cV Prod.snd (iL e2')
    dsimp only at q1 q2
    rw[←q1,←q2]
    have w1:f12 w p b=some (WL ok x.2.2.2.1 p (gV p).length):=by
     unfold f12
     rw[ef,aH,aC (by decide),hx1]
     rfl
    have w2:f12 w p a=some (WL ok x.2.2.2.1 p (gV p).length):=by
     unfold f12
     rw[ef,aH,aC (by decide),hx2]
     rfl
    have hlw:=Bi ok x.2.2.2.1 p (gV p).length
    have hAN:AN w b a [p]= []:=by
     have t3:tB w b p=tB w a p:=by unfold tB;rw[t1,t2]
     rw[xJ]
     unfold Oo
     rw[t3,aC (by cases tB w a p<;>simp)]
     rfl
    rw[hAN] at hn
    rw[aC (by decide),aA (by simp),sameReads_self rs cl,aH,aA rfl,w1,aH,w2,aH,sameInts_self _ (by omega),aH,aA rfl,hn]
    rfl
theorem pl3(a0:bO)(a1:mX)(a2:Int)(a3:Int)(af0:wf fp a0)(af1:wf ji a1)(_af2:wf (.int .i64) a2)(_af3:wf (.int .i64) a3):f3 a0 a1 a2 a3=some true:=
 lawAlike_eq a0 a1 a2 a3 (Ot af0.1.1) af1.2.2.2.2.2.2.2.1.2.1
end Go.Proofs.YtgdcjlldafmomaaGreat
