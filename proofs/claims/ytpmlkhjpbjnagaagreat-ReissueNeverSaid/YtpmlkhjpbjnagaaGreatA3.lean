/- The machines: what it means to be walked or run, part 3. No condition. -/
import Derived.Test.YtpmlkhjpbjnagaaGreatA2
import Derived.Laws.IdiomRangeMap
namespace Go.Ax
section
variable{P:Program} {G:bN} (T:bA P G) {E:Env} {w:World} {α:Type} {kt:Ty}
def RK(E:Env)(w:World)(kt:Ty):List MapEntry→List (kt.den×α)→Prop
 |[],[]=>True
 |e::es,x::xs=>bZ E w (.val kt x.1) e.key∧RK E w kt es xs
 |_,_=>False
theorem RK.at:∀{es:List (kt.den×α)}{en:List MapEntry},en.length=es.length→(∀(i:Nat) x,es[i]? =some x→∃m,en[i]? =some m∧bZ E w (.val kt x.1) m.key)→RK E w kt en es
 |[],[],_,_=>trivial
 |[],_::_,hl,_=>by simp at hl
 |_::_,[],hl,_=>by simp at hl
 |
  x::es,m::en,hl,h=>by
  obtain⟨u,h1,h2⟩:=h 0 x rfl
  simp at h1;subst h1
  exact⟨h2,RK.at (by simpa using hl) (fun i y hy=>by simpa using h (i+1) y (by simpa using hy))⟩
def zq(l:List MapEntry)(i0:Nat):Option (Nat×α)→Option (Nat×Value)→Prop
 |none,none=>True
 |some x,some y=>x.1=y.1∧i0≤x.1∧∃e,l[x.1 -i0]? =some e∧e.val=y.2
 |_,_=>False
theorem zq.up{e:MapEntry}{l:List MapEntry}{i:Nat}{x:Option (Nat×α)}{y:Option (Nat×Value)}(h:zq l (i+1) x y):zq (e::l) i x y:=by
 cases x with
 |
  none=>cases y with
  |none=>trivial
  |some _=>trivial
 |
  some x=>cases y with
  |none=>trivial
  |
   some y=>
   obtain⟨h1,h2,m,h3,h4⟩:=h
   refine⟨h1,by omega,m,?_,h4⟩<;>grind
include T in
theorem ub{t:TypeId}{td:TD}(ht:G.at t=some td)(he:iM P G 40 t td.ty=true){k:td.ty.den}{v:Value}(hv:bZ E w (.val td.ty k) v):∀{l:List MapEntry}{es:List (td.ty.den×α)}(i:Nat),RK E w td.ty l es→
 ∃r,(Instr.findAsking t v l i).run P w= .ok r w∧zq l i (bY td.ty k es i) r
 |[],[],i,_=>⟨none,by trivial,trivial⟩
 |[],_::_,_,h=>h.elim
 |_::_,[],_,h=>h.elim
 |
  e::l,x::es,i,⟨h1,h3⟩=>by
  have hq:(Op.equal t v e.key).run P w= .ok (bl td.ty k x.1) w:=vj T (E:=E) (w:=w) (Op.maxDepth -40) 40 t td ht he k x.1 v e.key hv h1
  cases hb:bl td.ty k x.1 with
  |true=>exact⟨some (i,e.val),by simp[Instr.findAsking,hq,hb],by simp only[bY,hb,cj];exact⟨rfl,dP _,e,by simp,rfl⟩⟩
  |
   false=>
   obtain⟨r,r1,r2⟩:=ub ht he hv (i+1) h3
   exact⟨r,by simp[Instr.findAsking,hq,hb,r1],by simp only[bY,hb];exact r2.up⟩
theorem DP{d:TypeDesc}{k:kt.den}{v:Value}(hv:bZ E w (.val kt k) v):∀{l:List MapEntry}{es:List (kt.den×α)}(i:Nat){r:Option (Nat×Value)},RK E w kt l es→Instr.findNow d v l i=some r→zq l i (bY kt k es i) r
 |[],[],i,r,_,h=>by simp[Instr.findNow] at h;subst h;trivial
 |[],_::_,_,_,h,_=>h.elim
 |_::_,[],_,_,h,_=>h.elim
 |
  e::l,x::es,i,r,⟨h1,h3⟩,h=>by
  simp only[Instr.findNow] at h
  split at h
  ·rename_i hs
   have:=lR hv h1 hs
   cases h
   simp only[bY,←this,cj];exact⟨rfl,dP _,e,by simp,rfl⟩
  ·rename_i hs
   have:=lR hv h1 hs
   simp only[bY,←this,eM,dB]
   exact(DP hv (i+1) h3 h).up
  ·cases h
include T in
theorem DQ{t:TypeId}{td:TD}(ht:G.at t=some td)(he:iM P G 40 t td.ty=true){k:td.ty.den}{v:Value}(hv:bZ E w (.val td.ty k) v){l:List MapEntry}{es:List (td.ty.den×α)}(h:RK E w td.ty l es):
 ∃r,(Instr.findKey t v l).run P w= .ok r w∧zq l 0 (bY td.ty k es 0) r:=by
 obtain⟨ii,dd,_,hu,_⟩:=T.info ht
 unfold Instr.findKey
 simp only[Sem.run_bind,run_underlying hu,Result.andThen_ok]
 split
 ·rename_i r hr
  exact⟨r,rfl,DP hv 0 h hr⟩
 ·exact ub T ht he hv 0 h
end
variable{kt:Ty}{α:Type}
theorem pF(hk:kt.keyed=true){k:kt.den}:∀{es:List (kt.den×α)}{i j:Nat}{y:α},bY kt k es i=some (j,y)→i≤j∧es[j -i]? =some (k,y)
 |[],i,j,y,h=>by trivial
 |
  x::es,i,j,y,h=>by
  simp only[bY] at h
  split at h
  ·rename_i hb
   cases h
   simp_all[bO]
  ·obtain⟨h1,h2⟩:=pF hk h
   grind
theorem pI(hk:kt.keyed=true){k:kt.den}:∀{es:List (kt.den×α)}{i:Nat},bY kt k es i=none→k∉es.map (·.1)
 |[],i,h=>by simp
 |
  x::es,i,h=>by
  simp only[bY] at h
  split at h
  ·cases h
  ·rename_i hb
   have h2:=pI hk h
   simp_all[bO]
theorem qU(hk:kt.keyed=true){k:kt.den}{y:α}:∀{es:List (kt.den×α)}{i:Nat}{z:α},(es.map (·.1)).Nodup→es[i]? =some (k,z)→aZ kt k y es=es.set i (k,y)
 |[],i,z,_,h=>by simp at h
 |
  x::es,0,z,_,h=>by
  simp_all[aZ,bO]
 |
  x::es,i+1,z,hn,h=>by
  simp only[we] at h
  simp only[dA,kM] at hn
  have hne:bl kt k x.1=false:=by
   cases hb:bl kt k x.1 with
   |false=>rfl
   |
    true=>
    have e:=(bO hk _ _).1 hb
    exact absurd (List.mem_map.2 ⟨_,kL h,e⟩) hn.1
  simp only[aZ,hne,List.set_cons_succ]
  rw[qU hk hn.2 h];rfl
theorem gw(hk:kt.keyed=true){k:kt.den}{y:α}:∀{es:List (kt.den×α)},k∉es.map (·.1)→aZ kt k y es=es++[(k,y)]
 |[],_=>rfl
 |
  x::es,h=>by
  simp only[dA,fg,not_or] at h
  have hne:bl kt k x.1=false:=by
   cases hb:bl kt k x.1 with
   |false=>rfl
   |true=>exact absurd ((bO hk _ _).1 hb) h.1
  simp only[aZ,hne]
  rw[gw hk h.2];rfl
theorem xc{k:kt.den}{es:List (kt.den×α)}(hn:(es.map (·.1)).Nodup){i j:Nat}{y z:α}(h1:es[i]? =some (k,y))(h2:es[j]? =some (k,z)):i=j:=by
 have hi:i<(es.map (·.1)).length:=by grind
 have e1:(es.map (·.1))[i]? =some k:=by grind
 have e2:(es.map (·.1))[j]? =some k:=by grind
 grind [List.getElem?_inj]
theorem di(hk:kt.keyed=true){k:kt.den}:∀{es:List (kt.den×α)},bT kt k es=true↔k∈es.map (·.1)
 |[]=>by simp[bT]
 |
  x::es=>by
  simp only[bT,fK,dA,fg,di hk,bO hk]
def Ty.PQ:Ty→Bool
 | .map _ _| .slice _ _=>true
 |_=>false
def Ty.yk:Ty→Bool
 | .map _ _=>true
 |_=>false
variable{P:Program}{td:TD}
theorem AY{G:bN}(T:bA P G){t:TypeId}(ht:G.at t=some td)(hs:td.ty.PQ=true)(w:World):(zeroValue t).run P w= .ok (zeroV td.ty) w:=by
 obtain⟨z,z1,z2,z3⟩:=T.zero ht w
 rw[z1]
 congr 1
 cases hty:td.ty with
 |
  slice bs u=>
  rw[hty] at z2 z3
  cases z with
  |agg cs=>trivial
  |
   slice a n c=>
   have z2:isZero (.slice bs u) (.slice a n c)=true:=z2
   cases a with
   |some _=>trivial
   |
    none=>
    simp only[isZero,bj] at z2
    have e1:=bM z2.1.2;have e2:=bM z2.2
    subst e1;subst e2;rfl
  |_=>trivial
 |
  map k u=>
  rw[hty] at z2 z3
  cases z with
  |agg cs=>trivial
  |
   map a=>
   have z2:isZero (.map k u) (.map a)=true:=z2
   cases a with
   |some _=>trivial
   |none=>rfl
  |_=>trivial
 |_=>rw[hty] at hs;trivial
variable{w:World}
theorem cZ.adu{S:Nat→Prop}{e:TypeId}{t:Ty}{v:Value}{og:Option Nat}{x:t.den}(ht:t.yk=true)(h:cZ w S e t v og x):∃g,v= .map (some g):=by
 cases t with
 |map k u=>obtain⟨es',_,_,_,gg,_,_,_,e,_⟩:=h;grind
 |_=>cases ht
theorem zr{t:Ty}(ht:t.yk=true):zeroV t= .map none:=by
 cases t with
 |map k u=>rfl
 |_=>cases ht
theorem Mu{t:Ty}(ht:t.yk=true):t.PQ=true:=by
 cases t with
 |map k u=>rfl
 |_=>cases ht
def qV(P:Program)(G:bN)(hb:Nat→Option aO)(t:TypeId)(x i:AV):Option (AV×List VC):=
 match jT G t,x with
 |
  some (ke,_,kt,vt),.mp b=>match hb b with
  |some (.pmap k u es _ f)=>if h:Ty.same k kt=true∧Ty.same u vt=true then(match i.bB kt,f with
   |some k',some (kx,v,_)=>if i.plain&&v.plain&& !v.isAgg&&u.PQ then some (v,[vc (iM P G 40 ke kt=true),vc (bl kt k' (Ty.aB h.1▸kx:kt.den)=true)]) else none
   |some k',none=>if i.plain&&u.yk then some (.nq (!(bT kt k' (Ty.aB h.1▸es:List (kt.den×u.den)))),[vc (iM P G 40 ke kt=true)]) else none
   |_,_=>none) else none
  |_=>none
 |_,_=>none
variable{E:Env}{vt:Ty}{ke:TypeId}{e2:TypeId}{kd:TD}{vi:Value}
theorem oi{G:bN}(T:bA P G){b:Nat}{es:List (kd.ty.den×vt.den)}{f:Option (kd.ty.den×AV×Bool)}(hk:kd.ty.keyed=true)(h4:G.at ke=some kd)(he:iM P G 40 ke kd.ty=true)
 (hrb:RB E w b (.pmap kd.ty vt es e2 f)) {k':kd.ty.den}  (hkv:bZ E w (.val kd.ty k') vi):
 ∃g en clock r,E.g b=some g∧w.heap[g]? =some (.map en clock)∧(∀em,(Instr.checkKey em 10000 ke vi).run P w= .ok () w)∧(Instr.findKey ke vi en.toList).run P w= .ok r w∧
  ((r=none∧k'∉es.map (·.1))∨∃i y m,r=some (i,m.val)∧es[i]? =some (k',y)∧en[i]? =some m):=by
 obtain⟨h1,h2,h3,g,en,clock,og,q1,q2,q3,q4,q5,q6,q7,q8⟩:=hrb
 have hrk:RK E w kd.ty en.toList es:=RK.at (by grind) (fun i x hx=>by
  grind)
 obtain⟨r,r1,r2⟩:=DQ T h4 he hkv hrk
 refine⟨g,en,clock,r,q1,q2,fun em=>fR T (E:=E) (w:=w) em 9960 40 ke kd h4 he k' vi hkv,r1,?_⟩
 cases hf:bY kd.ty k' es 0 with
 |
  none=>
  rw[hf] at r2
  cases r with
  |none=>exact Or.inl ⟨rfl,pI hk hf⟩
  |some _=>trivial
 |
  some p=>
  obtain⟨i,y⟩:=p
  rw[hf] at r2
  cases r with
  |none=>trivial
  |
   some q=>
   obtain⟨i',u⟩:=q
   obtain⟨e1,_,m,e2,e3⟩:=r2
   simp only[Nat.sub_zero] at e1 e2 e3
   subst e1;subst e3
   have:=(pF hk hf).2
   grind
variable{hb:Nat→Option aO}{vx:Value}{hp:List (Option aO)}{vcs:List VC}
theorem FJ{G:bN}(T:bA P G){gl:Ctx}(hw:HW gl E w hp)(hB:HB hb hp){t:TypeId}{x i:AV}(hx:RV E w x vx)(hi:RV E w i vi){r:AV}(h:qV P G hb t x i=some (r,vcs))(hvc:dD vcs):
 ∃v,(Instr.lookup t vx vi false).run P w= .ok v w∧RV E w r v:=by
 unfold qV at h
 split at h
 ·rename_i ke ve kt vt b hm
  obtain⟨hu,hke,_,⟨kd,h4,h5⟩,⟨vd,h6,h7⟩⟩:=fY T hm
  subst h5;subst h7
  split at h
  ·rename_i k u es e2 f hbk
   split at h
   ·rename_i hc
    obtain⟨c1,c2⟩:=hc
    have e1:=Ty.aB c1;subst e1
    have e2':=Ty.aB c2;subst e2'
    have hrb:=hw.cQ b _ (hB b _ hbk)
    obtain⟨g0,hg0,ex⟩:=RV.atom rfl hx
    simp at ex;subst ex
    split at h
    ·rename_i k' kx v pr hk'
     split at h
     ·rename_i hpl
      simp only[cX,iv] at h
      obtain⟨er,ev⟩:=h
      subst ev
      rw[←er]
      simp only[bj,gZ] at hpl
      obtain⟨⟨⟨p1,p2⟩,p3⟩,p4⟩:=hpl
      obtain⟨he,hkx,_⟩:=hvc
      have hkx:k'=kx:=(bO hke _ _).1 hkx
      subst hkx
      have hkv:=bZ.bB hk' (RV.jq p1 hi)
      obtain⟨g,en,clock,r,q1,q2,q3,q4,q5⟩:=oi T hke h4 he hrb hkv
      rw[q1] at hg0
      have hg0:=kN hg0
      subst hg0
      have amX:(getObj g).run P w= .ok (.map en clock) w:=by simp[getObj,Sem.run,q2]
      obtain⟨z1,z2,z3,g',en',amL,og,y1,y2,y3,y4,y5,y6,y7,y8⟩:=hrb
      rw[q1] at y1;cases y1
      rw[q2] at y2;cases y2
      rcases q5 with⟨e,hn⟩|⟨j,y,m,e,s1,s2⟩
      ·subst e
       refine⟨zeroV vd.ty,by simp only[Instr.lookup,Sem.run_bind,run_underlying hu,Result.andThen_ok,Sem.run_pure,amX,q3,q4,AY T h6 p4];rfl,RV.eS (Or.inr ⟨p3,?_⟩)⟩
       cases pr<;>grind
      ·subst e
       obtain⟨m',t1,_,t3,_⟩:=y7 j _ s1
       rw[s2] at t1;cases t1
       exact⟨m.val,by simp only[Instr.lookup,Sem.run_bind,run_underlying hu,Result.andThen_ok,Sem.run_pure,amX,q3,q4];rfl,RV.eS (Or.inr ⟨p3,(t3 v pr rfl).2⟩)⟩
     grind
    ·rename_i k' hk'
     split at h
     ·rename_i hpl
      cases h
      simp only[bj] at hpl
      obtain⟨p1,p4⟩:=hpl
      obtain⟨he,_⟩:=hvc
      have hkv:=bZ.bB hk' (RV.jq p1 hi)
      obtain⟨g,en,clock,r,q1,q2,q3,q4,q5⟩:=oi T hke h4 he hrb hkv
      rw[q1] at hg0
      have hg0:=kN hg0
      subst hg0
      have amX:(getObj g).run P w= .ok (.map en clock) w:=by simp[getObj,Sem.run,q2]
      obtain⟨z1,z2,z3,g',en',amL,og,y1,y2,y3,y4,y5,y6,y7,y8⟩:=hrb
      rw[q1] at y1;cases y1
      rw[q2] at y2;cases y2
      have hz:=AY T h6 (Mu p4) w
      rcases q5 with⟨e,hn⟩|⟨j,y,m,e,s1,s2⟩
      ·subst e
       refine⟨zeroV vd.ty,by simp only[Instr.lookup,Sem.run_bind,run_underlying hu,Result.andThen_ok,Sem.run_pure,amX,q3,q4,hz];rfl,RV.eS (Or.inr ⟨rfl,none,by rw[zr p4],?_⟩)⟩
       grind [di]
      ·subst e
       obtain⟨m',t1,_,_,t4⟩:=y7 j _ s1
       rw[s2] at t1;cases t1
       obtain⟨gg,hmv⟩:=(t4 (fun v pr hv=>by cases hv)).adu p4
       refine⟨m.val,by simp only[Instr.lookup,Sem.run_bind,run_underlying hu,Result.andThen_ok,Sem.run_pure,amX,q3,q4];rfl,RV.eS (Or.inr ⟨rfl,some gg,by rw[hmv],?_⟩)⟩
       have hm:bT kd.ty k' es=true:=(di hke).2 (List.mem_map.2 ⟨_,kL s1,rfl⟩)
       grind
     grind
    grind
   grind
  grind
 grind
def oW(kt vt:Ty)(kx:kt.den)(es:List (kt.den×vt.den)):Bool→List (kt.den×vt.den)
 |true=>es
 |false=>aZ kt kx vt.aD es
def FK(P:Program)(G:bN)(hb:Nat→Option aO)(t:TypeId)(x k v:AV):Option fF:=
 match jT G t,x with
 |
  some (ke,_,kt,vt),.mp b=>match hb b with
  |some (.pmap k0 u es e2 (some (kx,_,pr)))=>if h:Ty.same k0 kt=true∧Ty.same u vt=true then(match k.bB kt with
   |some k'=>if k.plain&&v.plain&& !v.isAgg&&v.cp u then some ⟨.bot,[(b,some (.pmap k0 u (oW k0 u kx es pr) e2 (some (kx,v,true))))],[],[vc (iM P G 40 ke kt=true),vc (bl kt k' (Ty.aB h.1▸kx:kt.den)=true),vc (es.length+1≤aH)]⟩ else none
   |none=>none) else none
  |_=>none
 |_,_=>none
variable{en:Array MapEntry}
theorem uc{i:Nat}{f:MapEntry→MapEntry}(hf:∀e,(f e).born=e.born):(en.modify i f).toList.map (·.born)=en.toList.map (·.born):=by
 rw[Array.toList_modify]
 apply List.ext_getElem?
 grind
variable{vk:Value}{clock:Nat}{vv:Value}{es:List (kt.den×vt.den)}{v0:AV}{kx:kt.den}
theorem Io{b:Nat}{v:AV}{pr:Bool}(hke:kt.keyed=true)(hrb:PM E w b kt vt es e2 (some (kx,v0,pr))){g:Nat}(q1:E.g b=some g)(q2:w.heap[g]? =some (.map en clock))(hn:kx∉es.map (·.1))
  (hkv:bZ E w (.val kt kx) vk) (hvv:RC E w v [vv]) (hc:v.cp vt=true) (hlen:es.length+1≤aH) (kpo:∀o,bE E w E (w.putObj g o)):
 pr=false∧es.length=en.size∧PM E (w.putObj g (.map (en.push {key:=vk,val:=vv,born:=clock}) (clock+1))) b kt vt (aZ kt kx vt.aD es) e2 (some (kx,v,true)):=by
 obtain⟨z1,z2,z3,g',en',amL,og,y1,y2,y3,y4,y5,y6,y7,y8⟩:=hrb
 rw[q1] at y1;cases y1
 rw[q2] at y2;cases y2
 have hlt:g<w.heap.size:=(Array.getElem?_eq_some_iff.1 q2).1
 have sub:∀o j(t:Ty)(u:Value)(x:t.den),cZ w E.S e2 t u (og j) x→cZ (w.putObj g o) E.S e2 t u (og j) x:=fun o j t u x hs=>
  cZ.mono (kpo o).w (kpo o).S (fun gg hgg=>World.putObj_heap_other (y5.own j gg hgg).2) hs
 have hpr:pr=false:=by
  cases pr<;>grind
 refine⟨hpr,y6.symm,?_⟩
 have hes:aZ kt kx vt.aD es=es++[(kx,vt.aD)]:=gw hke hn
 refine⟨cU hke z1,dh dy hlen,fun kx' v' pr' hv'=>by grind,g,_,_,fun j=>if j=es.length then none else og j,q1,World.putObj_heap_same hlt,?_,?_,⟨?_,?_⟩,?_,?_,?_⟩
 ·grind
 ·grind
 ·intro j u hj
  have hj:(if j=es.length then none else og j)=some u:=hj
  split at hj
  ·cases hj
  ·exact y5.own j u hj
 ·intro j j' u hj hj'
  have hj:(if j=es.length then none else og j)=some u:=hj
  have hj':(if j'=es.length then none else og j')=some u:=hj'
  split at hj
  ·cases hj
  ·split at hj'
   ·cases hj'
   ·exact y5.inj j j' u hj hj'
 ·grind
 ·rw[hes]
  intro j x hx
  by_cases hj:j<es.length
  ·rw[List.getElem?_append_left hj] at hx
   obtain⟨m,t1,t2,t3,t4⟩:=y7 j x hx
   have hne:j≠es.length:=by omega
   have hxk:x.1≠kx:=fun e=>hn (List.mem_map.2 ⟨x,kL hx,e⟩)
   refine⟨m,by rw[Array.getElem?_push_lt (by rw[y6];exact hj)];have t1:=t1;rw[Array.getElem?_eq_getElem (by rw[y6];exact hj)] at t1;exact t1,bZ.mono (kpo _) (fun _ hb=>by cases hb) t2,fun v' pr' hv'=>(by cases hv';exact absurd rfl hxk),fun _=>?_⟩<;>grind
  ·have hj2:j=es.length:=by
    grind
   subst hj2
   simp at hx;subst hx
   refine⟨{key:=vk,val:=vv,born:=clock},by grind,bZ.mono (kpo _) (fun _ hb=>by cases hb) hkv,fun v' pr' hv'=>?_,fun hv'=>absurd rfl (hv' v true)⟩
   cases hv'
   exact⟨aA rfl,RC.mono (kpo _) (fun _ _=>⟨rfl,rfl,rfl⟩) hvv⟩
 grind
theorem FL{b:Nat}{v:AV}{pr:Bool}(hke:kt.keyed=true)(hrb:PM E w b kt vt es e2 (some (kx,v0,pr))){g:Nat}(q1:E.g b=some g)(q2:w.heap[g]? =some (.map en clock))
 {i:Nat} {y:vt.den} {m:MapEntry} (s1:es[i]? =some (kx,y)) (s2:en[i]? =some m) (f:MapEntry→MapEntry) (hf:∀e,(f e).born=e.born) (hkv:bZ E w (.val kt kx) (f m).key) (hvv:RC E w v [(f m).val]) (hc:v.cp vt=true) (kpo:∀o,bE E w E (w.putObj g o)):
 (∃y',oW kt vt kx es pr=es.set i (kx,y'))∧bZ E w (.val kt kx) m.key∧RC E w v0 [m.val]∧PM E (w.putObj g (.map (en.modify i f) clock)) b kt vt (oW kt vt kx es pr) e2 (some (kx,v,true)):=by
 obtain⟨z1,z2,z3,g',en',amL,og,y1,y2,y3,y4,y5,y6,y7,y8⟩:=hrb
 rw[q1] at y1;cases y1
 rw[q2] at y2;cases y2
 have hlt:g<w.heap.size:=(Array.getElem?_eq_some_iff.1 q2).1
 have sub:∀o j(t:Ty)(u:Value)(x:t.den),cZ w E.S e2 t u (og j) x→cZ (w.putObj g o) E.S e2 t u (og j) x:=fun o j t u x hs=>
  cZ.mono (kpo o).w (kpo o).S (fun gg hgg=>World.putObj_heap_other (y5.own j gg hgg).2) hs
 obtain⟨m',t1,t2,t3,t4⟩:=y7 i _ s1
 rw[s2] at t1;cases t1
 have hi:i<es.length:=(List.getElem?_eq_some_iff.1 s1).1
 have hog:og i=none:=(t3 v0 pr rfl).1
 have hes:∃y',oW kt vt kx es pr=es.set i (kx,y'):=by
  cases pr with
  |
   true=>
   refine⟨y,?_⟩
   show es=_
   apply List.ext_getElem?
   grind
  |false=>exact⟨vt.aD,qU hke z1 s1⟩
 refine⟨hes,t2,(t3 v0 pr rfl).2,?_⟩
 obtain⟨y',hes⟩:=hes
 have hnd:((oW kt vt kx es pr).map (·.1)).Nodup:=by
  cases pr with
  |true=>exact z1
  |false=>exact cU hke z1
 refine⟨hnd,by grind,fun kx' v' pr' hv'=>by grind,g,_,_,og,q1,World.putObj_heap_same hlt,?_,?_,y5,?_,?_,?_⟩
 ·intro x hx
  have hb:x.born∈(en.modify i f).toList.map (·.born):=List.mem_map.2 ⟨x,hx,rfl⟩
  grind [uc]
 ·rw[uc hf];exact y4
 ·grind
 ·rw[hes]
  intro j x hx
  rw[dv] at hx
  by_cases hne:i=j
  ·subst hne
   rw[aA rfl,aA hi] at hx
   cases hx
   refine⟨f m,by grind,bZ.mono (kpo _) (fun _ hb=>by cases hb) hkv,fun v' pr' hv'=>?_,fun hv'=>absurd rfl (hv' v true)⟩
   cases hv'
   exact⟨hog,RC.mono (kpo _) (fun _ _=>⟨rfl,rfl,rfl⟩) hvv⟩
  ·rw[aC hne] at hx
   obtain⟨m2,t1,t2,t3,t4⟩:=y7 j x hx
   have hxk:x.1≠kx:=fun e=>by
    grind [xc]
   refine⟨m2,by rw[Array.getElem?_modify,aC hne];exact t1,bZ.mono (kpo _) (fun _ hb=>by cases hb) t2,fun v' pr' hv'=>(by cases hv';exact absurd rfl hxk),fun _=>?_⟩<;>grind
 ·intro kx' v'
  refine⟨fun hf=>(by cases hf),fun hf=>?_⟩
  cases hf
  rw[hes]
  exact List.mem_map.2 ⟨(kx,y'),kL (i:=i) (by grind),rfl⟩
variable{σ:St}
theorem JI{G:bN}(T:bA P G){gl:Ctx}{a:Act}(h:bQ gl σ E a w)(hB:HB hb σ.hp){t:TypeId}{x k v:AV}(hx:RV E w x vx)(hk:RV E w k vk)(hv:RV E w v vv){r:fF}(he:FK P G hb t x k v=some r)(hvc:dD r.vc):
 ∃w',(Instr.mapUpdate t vx vk vv).run P w= .ok () w'∧bQ gl {σ with hp:=aS σ.hp r.hw} E a w'∧RV E w' r.v undef∧Ext gl.md (bx σ.hp E) E w (bx (aS σ.hp r.hw) E) E w':=by
 unfold FK at he
 split at he
 ·rename_i ke ve kt vt b hm
  obtain⟨hu,hke,_,⟨kd,h4,h5⟩,⟨vd,h6,h7⟩⟩:=fY T hm
  subst h5;subst h7
  split at he
  ·rename_i k0 u es e2 kx v0 pr hbk0
   split at he
   ·rename_i hc
    obtain⟨c1,c2⟩:=hc
    have e1:=Ty.aB c1;subst e1
    have e2':=Ty.aB c2;subst e2'
    split at he
    ·rename_i k' hk'
     split at he
     ·rename_i hpl
      cases he
      simp only[bj,gZ] at hpl
      obtain⟨⟨⟨p1,p2⟩,p3⟩,p4⟩:=hpl
      obtain⟨he,hkx,hlen,_⟩:=hvc
      have hkx:k'=kx:=(bO hke _ _).1 hkx
      subst hkx
      have hkv:bZ E w (.val kd.ty k') vk:=bZ.bB hk' (RV.jq p1 hk)
      have hvv:RC E w v [vv]:=by
       rcases RV.jq p2 hv with⟨hh,_⟩|⟨_,hh⟩<;>grind
      have hbk:=hB b _ hbk0
      have hrb:=h.hw.cQ b _ hbk
      obtain⟨g0,hg0,ex⟩:=RV.atom rfl hx
      simp at ex;subst ex
      obtain⟨g,en,clock,r,q1,q2,q3,q4,q5⟩:=oi T hke h4 he hrb hkv
      rw[q1] at hg0
      have hg0:=kN hg0
      subst hg0
      have amX:(getObj g).run P w= .ok (.map en clock) w:=by simp[getObj,Sem.run,q2]
      have aS:∀o,(setObj g o).run P w= .ok () (w.putObj g o):=fun o=>by simp[setObj,Sem.run,q2,World.putObj]
      have kpo:∀o,bE E w E (w.putObj g o):=fun o=>⟨fun i hi=>World.putObj_heap_other (fun e=>h.hw.jI b _ g hbk q1 (e▸hi)),fun _ h=>h⟩
      have key:∃en' amL,(Instr.mapUpdate t (.map (some g)) vk vv).run P w= .ok () (w.putObj g (.map en' amL))∧RB E (w.putObj g (.map en' amL)) b (.pmap kd.ty vd.ty (oW kd.ty vd.ty k' es pr) e2 (some (k',v,true))):=by
       rcases q5 with⟨e,hn⟩|⟨i,y,m,e,s1,s2⟩
       ·subst e
        obtain⟨hpr,_,hpm⟩:=Io hke hrb q1 q2 hn hkv hvv p4 hlen kpo
        subst hpr
        exact⟨_,_,by simp_all[Instr.mapUpdate,run_underlying],hpm⟩
       ·subst e
        obtain⟨_,t2,_,hpm⟩:=FL hke hrb q1 q2 s1 s2 (fun e=>{e with key:=vk,val:=vv}) (fun _=>rfl) hkv hvv p4 kpo
        obtain⟨f1,f2⟩:=bZ.fn hke t2 hkv
        have hold:((en[i]?).map (·.key)).getD vk=m.key:=by grind
        have hstay:(Instr.keyThatStays (((en[i]?).map (·.key)).getD vk) vk).run P w= .ok vk w:=by
         simp_all[Instr.keyThatStays]
        exact⟨_,_,by simp_all[Instr.mapUpdate,run_underlying],hpm⟩
      obtain⟨en',amL,k1,hrb2⟩:=key
      have kp:=kpo (.map en' amL)
      have hw2:=h.hw.write hbk (by simp) (fun i hi=>World.putObj_heap_other (fun e=>hi (by grind))) hrb2
      refine⟨_,k1,h.carry kp (fun _ _=>⟨rfl,rfl,rfl⟩) hw2,trivial,⟨rfl,Tp.r rfl rfl,rfl,by simp,?_,fun _ h=>h,fun _ h=>Or.inl h,fun i hi=>Or.inl (bx.jd hbk hi),fun _ _=>⟨rfl,rfl,rfl⟩⟩⟩
      intro i hi ho
      exact World.putObj_heap_other (fun e=>ho ⟨b,_,hbk,by rw[e];exact Or.inl q1⟩)
     grind
    grind
   grind
  grind
 grind
def zt(P:Program)(G:bN)(op:Op)(ev:Operand→AV)(hb:Nat→Option aO):Option fF:=
 match op with
 | .lookup t x i false=>(qV P G hb t (ev x) (ev i)).map .N2
 | .mapUpdate t x k v=>FK P G hb t (ev x) (ev k) (ev v)
 |_=>none
variable{ev:Operand→AV}
theorem Mv{G:bN}(T:bA P G){gl:Ctx}{a:Act}(h:bQ gl σ E a w){o:Oper}(hB:HB hb σ.hp){r:fF}
 (hev:∀x∈o.op.operands.toList,RV E w (ev x) (a.eval x)) (he:zt P G o.op ev hb=some r) (hvc:dD r.vc):bS P gl σ E a w o r:=by
 unfold zt at he
 split at he
 ·rename_i t x i hop
  obtain⟨⟨u,vc⟩,hu,rfl⟩:=Option.map_eq_some_iff.1 he
  obtain⟨v,h1,h2⟩:=FJ T h.hw hB (hev x (by simp[hop,Op.operands])) (hev i (by simp[hop,Op.operands])) hu hvc
  exact bS.same h (v:=v) (by simp[execOp,hop,h1]) h2
 ·rename_i t x k v hop
  obtain⟨w',h1,h2,h3,h4⟩:=JI T h hB (hev x (by simp[hop,Op.operands])) (hev k (by simp[hop,Op.operands])) (hev v (by simp[hop,Op.operands])) he hvc
  exact⟨_,undef,w',E,by simp[execOp,hop,h1],Or.inr ⟨rfl,rfl⟩,h2,h3,h4⟩
 grind
def AZ(G:bN)(d:Nat)(t:TypeId)(x:AV):Option fF:=
 match jT G t with
 |
  some (_,_,kt,vt)=>match x with
  | .val (.map k v) y=>some ⟨.ptr d [],[(d,some (.kB k v (aX y) none))],[d],[]⟩
  | .dX=>some ⟨.ptr d [],[(d,some (.kB kt vt [] none))],[d],[]⟩
  |_=>none
 |none=>none
def A0(hb:Nat→Option aO)(x:AV):Option AV:=
 match x with
 |
  .ptr b []=>match hb b with
  |some (.kB k v _ (some c))=>some (.fU (.cons (.val k c.1) (.cons (.val v c.2) .nil)))
  |_=>none
 |_=>none
theorem JJ(en:Array MapEntry):j8 en #[]=en:=by simp[j8]
theorem A1(w:World)(g bm since:Nat)(seen:Array Nat)(es:Array MapEntry)(clock:Nat)(e:MapEntry)(hg:w.heap[g]? =some (.mapIter (some bm) since (seen.push e.born) clock))(hb:w.heap[bm]? =some (.map es clock))(he:e∈es.toList)(hn:(es.toList.map (·.born)).Nodup):
 (Instr.entry (.pointer (some ⟨g,0,none⟩))).run P w= .ok (.tuple #[e.key,e.val]) w:=by
 have hf:es.find? (·.born==e.born)=some e:=by rw[←Array.find?_toList];exact find_born e es.toList hn he
 simp_all[Instr.entry,getObj,Sem.run]
theorem FN{G:bN}(T:bA P G){gl:Ctx}{a:Act}(h:bQ gl σ E a w){d:Nat}{t:TypeId}{x:AV}{r:fF}(hx:RV E w x vx)(he:AZ G d t x=some r)(hfr:∀b∈r.fr,σ.fresh b):
 ∃v w' E',(Instr.range t vx).run P w= .ok v w'∧bQ gl {σ with hp:=aS σ.hp r.hw} E' a w'∧RV E' w' r.v v∧Ext gl.md (bx σ.hp E) E w (bx (aS σ.hp r.hw) E') E' w':=by
 unfold AZ at he
 split at he
 ·rename_i ke ve kt vt hm
  obtain⟨hu,_⟩:=fY T hm
  have nilc:∀(k v:Ty),(∀b∈[d],σ.fresh b)→∃v' w' E',(Instr.range t (.map none)).run P w= .ok v' w'∧bQ gl {σ with hp:=aS σ.hp [(d,some (.kB k v [] none))]} E' a w'∧RV E' w' (.ptr d []) v'∧Ext gl.md (bx σ.hp E) E w (bx (aS σ.hp [(d,some (.kB k v [] none))]) E') E' w':=by
   intro k v hf
   have hf:=hf d (by simp)
   obtain⟨g1,x1⟩:=h.fresh (w':=w.alloc (.mapIter none 0 #[] 0)) hf (g:=some w.heap.size) (sv:=undef) (t:=.unit) (k:=.kB k v [] none) rfl (Tp.r rfl rfl) rfl (by simp) (fun i hi=>heap_alloc_old w _ hi) (fun i hi=>by grind)
    ⟨w.heap.size,none,0, #[],0,by simp[Env.at],heap_alloc_new w _,Or.inl ⟨rfl,rfl,rfl⟩⟩
   exact⟨_,_,_,run_range_nilMap w t ke ve hu,g1,RV.eS (Or.inr ⟨rfl,w.heap.size,by simp[Env.at],by simp[Env.at,Ty.off],by simp[Env.at,Ty.valid]⟩),x1⟩
  split at he
  ·rename_i k v y
   cases he
   obtain⟨a',e,hr⟩:=RV.atom rfl hx
   simp at e;subst e
   rcases hr with⟨rfl,rfl⟩|⟨es,g,en,clock,rfl,rfl,r1,r2,r3,_,_,r4,r5⟩
   ·exact nilc k v hfr
   ·have hf:=hfr d (by simp)
    have hgl:=h.hw.slt g r1
    have kp:bE E w (E.at d (some w.heap.size) undef .unit) (w.alloc (.mapIter (some g) clock #[] clock)):=⟨fun b hb=>heap_alloc_old w _ (h.hw.slt b hb),fun b hb=>hb⟩
    obtain⟨g1,x1⟩:=h.fresh (w':=w.alloc (.mapIter (some g) clock #[] clock)) hf (g:=some w.heap.size) (sv:=undef) (t:=.unit) (k:=.kB k v es none) rfl (Tp.r rfl rfl) rfl (by simp) (fun i hi=>heap_alloc_old w _ hi) (fun i hi=>by grind)
     ⟨w.heap.size,some g,clock, #[],clock,by simp[Env.at],heap_alloc_new w _,Or.inr ⟨g,en,rfl,r1,by rw[heap_alloc_old w _ hgl];exact r2,rfl,r4,r5,by grind [JJ,RM.mono,RM.of],fun x hx=>by cases hx⟩⟩
    exact⟨_,_,_,run_range_map w t ke ve g en clock hu r2,g1,RV.eS (Or.inr ⟨rfl,w.heap.size,by simp[Env.at],by simp[Env.at,Ty.off],by simp[Env.at,Ty.valid]⟩),x1⟩
  ·cases he
   obtain rfl:vx= .map none:=by have:=RV.atom rfl hx;simpa[RC] using this
   simp_all
  grind
 grind
theorem FP{gl:Ctx}(hw:HW gl E w hp)(hB:HB hb hp){x r:AV}(hx:RV E w x vx)(he:A0 hb x=some r):∃v,(Instr.entry vx).run P w= .ok v w∧RV E w r v:=by
 unfold A0 at he
 split at he
 ·rename_i b
  split at he
  ·rename_i k v rest c hk
   cases he
   obtain⟨g,om,since,seen,c0,q1,q2,q3⟩:=hw.cQ b _ (hB b _ hk)
   obtain⟨g',hg',ev,_⟩:=RV.atom rfl hx
   rw[q1] at hg';cases hg'
   simp at ev;subst ev
   rcases q3 with⟨_,_,h⟩|⟨bm,en,rfl,r2,r3,rfl,r5,r6,r7,r8⟩
   ·cases h
   ·obtain⟨e,s0,rfl,t2,t3,t4⟩:=r8 c rfl
    exact⟨_,by grind [Ty.off,A1], #[e.key,e.val],rfl,t3,t4,rfl⟩
  grind
 grind
def zu(G:bN)(d:Nat)(op:Op)(ev:Operand→AV)(hb:Nat→Option aO):Option fF:=
 match op with
 | .range t x=>AZ G d t (ev x)
 | .entry x=>(A0 hb (ev x)).map .one
 |_=>none
theorem Mw{G:bN}(T:bA P G){gl:Ctx}{a:Act}(h:bQ gl σ E a w){o:Oper}{d:Nat}(hB:HB hb σ.hp){r:fF}
 (hev:∀x∈o.op.operands.toList,RV E w (ev x) (a.eval x)) (he:zu G d o.op ev hb=some r) (hfr:∀b∈r.fr,σ.fresh b):bS P gl σ E a w o r:=by
 unfold zu at he
 split at he
 ·rename_i t x hop
  obtain⟨v,w',E',h1,h2,h3,h4⟩:=FN T (P:=P) h (hev x (by simp[hop,Op.operands])) he hfr
  exact⟨_,v,w',E',by simp[execOp,hop,h1],Or.inl rfl,h2,h3,h4⟩
 ·rename_i x hop
  obtain⟨u,hu,rfl⟩:=Option.map_eq_some_iff.1 he
  obtain⟨v,h1,h2⟩:=FP (P:=P) h.hw hB (hev x (by simp[hop,Op.operands])) hu
  exact bS.same h (v:=v) (by simp[execOp,hop,h1]) h2
 grind
def FQ(P:Program)(G:bN)(hb:Nat→Option aO)(t:TypeId)(x k:AV):Option fF:=
 match jT G t,x with
 |
  some (ke,_,kt,vt),.mp b=>match hb b with
  |some (.gp k0 u es e2 kx v pr)=>if h:Ty.same k0 kt=true∧Ty.same u vt=true then(match k.bB kt with
   |some k'=>if k.plain&&v.plain&& !v.isAgg&&v.cp u&&u.PQ then some ⟨.fU (.cons v (.cons (.eQ b) .nil)),[(b,some (.gp k0 u (oW k0 u kx es pr) e2 kx v true))],[],[vc (iM P G 40 ke kt=true),vc (bl kt k' (Ty.aB h.1▸kx:kt.den)=true),vc (es.length+1≤aH)]⟩ else none
   |none=>none) else none
  |_=>none
 |_,_=>none
variable{ve:TypeId}
theorem qW{t:TypeId}{g:Nat}(hu:P.underlying t=some (.map ke ve))(amX:w.heap[g]? =some (.map en clock))(q3:(Instr.checkKey false 10000 ke vk).run P w= .ok () w):
 (∀z,(zeroValue ve).run P w= .ok z w→(Instr.findKey ke vk en.toList).run P w= .ok none w→(Instr.mapEntry t (.map (some g)) vk).run P w= .ok (.tuple #[z,goInt clock]) (w.putObj g (.map (en.push {key:=vk,val:=z,born:=clock}) (clock+1))))∧
 ∀i m,en[i]? =some m→(Instr.findKey ke vk en.toList).run P w= .ok (some (i,m.val)) w→(Instr.keyThatStays m.key vk).run P w= .ok vk w→(Instr.mapEntry t (.map (some g)) vk).run P w= .ok (.tuple #[m.val,goInt m.born]) (w.putObj g (.map (en.modify i fun e=>{e with key:=vk}) clock)):=by
 simp_all[getObj,Sem.run,setObj,World.putObj,Instr.mapEntry,run_underlying]
theorem JK{G:bN}(T:bA P G){gl:Ctx}{a:Act}(h:bQ gl σ E a w)(hB:HB hb σ.hp){t:TypeId}{x k:AV}(hx:RV E w x vx)(hk:RV E w k vk){r:fF}(he:FQ P G hb t x k=some r)(hvc:dD r.vc):
 ∃v w',(Instr.mapEntry t vx vk).run P w= .ok v w'∧bQ gl {σ with hp:=aS σ.hp r.hw} E a w'∧RV E w' r.v v∧Ext gl.md (bx σ.hp E) E w (bx (aS σ.hp r.hw) E) E w':=by
 unfold FQ at he
 split at he
 case h_2=>cases he
 rename_i ke ve kt vt b hm
 obtain⟨hu,hke,_,⟨kd,h4,h5⟩,⟨vd,h6,h7⟩⟩:=fY T hm
 subst h5;subst h7
 split at he
 case h_2=>cases he
 rename_i k0 u es e2 kx v pr hbk0
 split at he
 case isFalse=>cases he
 rename_i hc
 obtain⟨c1,c2⟩:=hc
 have e1:=Ty.aB c1;subst e1
 have e2':=Ty.aB c2;subst e2'
 split at he
 case h_2=>cases he
 rename_i k' hk'
 split at he
 case isFalse=>cases he
 rename_i hpl
 cases he
 simp only[bj,gZ] at hpl
 obtain⟨⟨⟨⟨p1,p2⟩,p3⟩,p4⟩,p5⟩:=hpl
 obtain⟨he,hkx,hlen,_⟩:=hvc
 have hkx:k'=kx:=(bO hke _ _).1 hkx
 subst hkx
 have hkv:bZ E w (.val kd.ty k') vk:=bZ.bB hk' (RV.jq p1 hk)
 have hbk:=hB b _ hbk0
 obtain⟨hrb,n,g9,en9,clock9,n1,n2,n3,n4,n5⟩:=h.hw.cQ b _ hbk
 obtain⟨g0,hg0,ex⟩:=RV.atom rfl hx
 simp at ex;subst ex
 obtain⟨g,en,clock,r,q1,q2,q3,q4,q5⟩:=oi T hke h4 he hrb hkv
 rw[q1] at hg0;have hg0:=kN hg0;subst hg0
 rw[q1] at n2;have n2:=kN n2;subst n2
 rw[q2] at n3;cases n3
 have kpo:∀o,bE E w E (w.putObj g o):=fun o=>⟨fun i hi=>World.putObj_heap_other (fun e=>h.hw.jI b _ g hbk q1 (e▸hi)),fun _ h=>h⟩
 have hlt:g<w.heap.size:=(Array.getElem?_eq_some_iff.1 q2).1
 obtain⟨R1,R2⟩:=qW hu q2 (q3 false)
 have tupOK:∀(w':World)(vv:Value),RC E w' v [vv]→RV E w' (.fU (.cons v (.cons (.eQ b) .nil))) (.tuple #[vv,goInt n]):=by
  intro w' vv hv
  exact⟨#[vv,goInt n],rfl,Or.inr ⟨p3,hv⟩,Or.inr ⟨rfl,by rw[n1];rfl,n,n1⟩,rfl⟩
 have fin:∀(vv:Value)(en':Array MapEntry)(amL:Nat),RC E w v [vv]→(Instr.mapEntry t (.map (some g)) vk).run P w= .ok (.tuple #[vv,goInt n]) (w.putObj g (.map en' amL))→RB E (w.putObj g (.map en' amL)) b (.gp kd.ty vd.ty (oW kd.ty vd.ty k' es pr) e2 k' v true)→
  ∃v' w',(Instr.mapEntry t (.map (some g)) vk).run P w= .ok v' w'∧bQ gl {σ with hp:=aS σ.hp [(b,some (.gp kd.ty vd.ty (oW kd.ty vd.ty k' es pr) e2 k' v true))]} E a w'∧RV E w' (.fU (.cons v (.cons (.eQ b) .nil))) v'∧Ext gl.md (bx σ.hp E) E w (bx (aS σ.hp [(b,some (.gp kd.ty vd.ty (oW kd.ty vd.ty k' es pr) e2 k' v true))]) E) E w':=by
  intro vv en' amL hv amQ hrb2
  have hw2:=h.hw.write hbk (by simp) (fun i hi=>World.putObj_heap_other (fun e=>hi (by grind))) hrb2
  refine⟨_,_,amQ,h.carry (kpo _) (fun _ _=>⟨rfl,rfl,rfl⟩) hw2,tupOK _ _ (RC.mono (kpo _) (fun _ _=>⟨rfl,rfl,rfl⟩) hv),⟨rfl,Tp.r rfl rfl,rfl,by simp,?_,fun _ h=>h,fun _ h=>Or.inl h,fun i hi=>Or.inl (bx.jd hbk hi),fun _ _=>⟨rfl,rfl,rfl⟩⟩⟩
  intro i hi ho
  exact World.putObj_heap_other (fun e=>ho ⟨b,_,hbk,by rw[e];exact Or.inl q1⟩)
 have hpm:=hrb
 obtain⟨z1,z2,z3,g',en',amL,og,y1,y2,y3,y4,y5,y6,y7,y8⟩:=hpm
 rw[q1] at y1;cases y1
 rw[q2] at y2;cases y2
 rcases q5 with⟨e,hn⟩|⟨i,y,m,e,s1,s2⟩
 ·subst e
  have hpr:pr=false:=by
   grind
  subst hpr
  have hvv:RC E w v [zeroV vd.ty]:=(y8 _ v).1 rfl hn
  obtain⟨_,hsz,hpm⟩:=Io hke hrb q1 q2 hn hkv hvv p4 hlen kpo
  have hnc:=n4 hn
  refine fin (zeroV vd.ty) _ _ hvv (by grind [AY]) ⟨hpm,n,g,_,_,n1,q1,World.putObj_heap_same hlt,?_,?_⟩
  ·intro hh;exact absurd (by show k'∈(aZ kd.ty k' vd.ty.aD es).map (·.1);rw[gw hke hn];simp) hh
  ·intro j m' y' hj hm'
   have hj:(aZ kd.ty k' vd.ty.aD es)[j]? =some (k',y'):=hj
   grind [gw]
 ·subst e
  obtain⟨m',t1,t2,t3,t4⟩:=y7 i _ s1
  rw[s2] at t1;cases t1
  have hvv:=(t3 v pr rfl).2
  obtain⟨f1,f2⟩:=bZ.fn hke t2 hkv
  have hstay:(Instr.keyThatStays m.key vk).run P w= .ok vk w:=by
   rw[Instr.keyThatStays,←f1,aA f2];simp
  have hb:=n5 i m y s1 s2
  obtain⟨⟨y',hes⟩,_,_,hpm⟩:=FL hke hrb q1 q2 s1 s2 (fun e=>{e with key:=vk}) (fun _=>rfl) hkv hvv p4 kpo
  have hi:i<es.length:=(List.getElem?_eq_some_iff.1 s1).1
  refine fin m.val _ _ hvv (by grind) ⟨hpm,n,g,_,_,n1,q1,World.putObj_heap_same hlt,?_,?_⟩
  ·intro hh
   refine absurd ?_ hh
   rw[hes]
   exact List.mem_map.2 ⟨(k',y'),kL (i:=i) (by grind),rfl⟩
  grind
def FU(hb:Nat→Option aO)(x s y:AV):Option fF:=
 match x,s with
 |
  .mp b,.eQ c=>match hb b with
  |some (.gp k0 u es e2 kx _ true)=>if Nat.beq b c&&k0.keyed&&y.plain&& !y.isAgg&&y.cp u then some ⟨.bot,[(b,some (.gp k0 u es e2 kx y true))],[],[]⟩ else none
  |_=>none
 |_,_=>none
theorem xd(h:(en.toList.map (·.born)).Nodup){i j:Nat}{m m':MapEntry}(h1:en[i]? =some m)(h2:en[j]? =some m')(hb:m.born=m'.born):i=j:=by
 grind [List.pairwise_iff_getElem]
variable{vy:Value}
theorem JL{gl:Ctx}{a:Act}(h:bQ gl σ E a w)(hB:HB hb σ.hp){t:TypeId}{x s y:AV}{vs:Value}(hx:RV E w x vx)(hs:RV E w s vs)(hy:RV E w y vy){r:fF}(he:FU hb x s y=some r):
 ∃w',(Instr.entryStore t vx vs vy).run P w= .ok () w'∧bQ gl {σ with hp:=aS σ.hp r.hw} E a w'∧RV E w' r.v undef∧Ext gl.md (bx σ.hp E) E w (bx (aS σ.hp r.hw) E) E w':=by
 unfold FU at he
 split at he
 case h_2=>cases he
 rename_i b c
 split at he
 case h_2=>cases he
 rename_i k0 u es e2 kx v0 hbk0
 split at he
 case isFalse=>cases he
 rename_i hpl
 cases he
 simp only[bj,gZ] at hpl
 obtain⟨⟨⟨⟨p0,hke⟩,p2⟩,p3⟩,p4⟩:=hpl
 have p0:=bM p0;subst p0
 have hyv:RC E w y [vy]:=by
  rcases RV.jq p2 hy with⟨hh,_⟩|⟨_,hh⟩<;>grind
 have hbk:=hB b _ hbk0
 obtain⟨hrb,n,g,en,clock,n1,q1,q2,n4,n5⟩:=h.hw.cQ b _ hbk
 obtain⟨g0,hg0,ex⟩:=RV.atom rfl hx
 simp at ex;subst ex
 rw[q1] at hg0;have hg0:=kN hg0;subst hg0
 obtain⟨es1,_⟩:=RV.atom rfl hs
 simp at es1;subst es1
 have kpo:∀o,bE E w E (w.putObj g o):=fun o=>⟨fun i hi=>World.putObj_heap_other (fun e=>h.hw.jI b _ g hbk q1 (e▸hi)),fun _ h=>h⟩
 have hlt:g<w.heap.size:=(Array.getElem?_eq_some_iff.1 q2).1
 have hpm:=hrb
 obtain⟨z1,z2,z3,g',en',amL,og,y1,y2,y3,y4,y5,y6,y7,y8⟩:=hpm
 rw[q1] at y1;cases y1
 rw[q2] at y2;cases y2
 have hin:=(y8 kx v0).2 rfl
 obtain⟨z,hz,ez⟩:=List.mem_map.1 hin
 obtain⟨zk,zy⟩:=z
 simp only at ez;subst ez
 obtain⟨i,s1⟩:=List.getElem?_of_mem hz
 obtain⟨m,s2,t2,t3,t4⟩:=y7 i _ s1
 have hb:=n5 i m zy s1 s2
 obtain⟨⟨y',hes⟩,_,_,hpm⟩:=FL hke hrb q1 q2 s1 s2 (fun e=>{e with val:=vy}) (fun _=>rfl) t2 hyv p4 kpo
 have hfind:en.findIdx? (fun e=>(e.born:Int)==(n:Int))=some i:=by
  rw[Array.findIdx?_eq_some_iff_getElem]
  obtain⟨hi,hm⟩:=Array.getElem?_eq_some_iff.1 s2
  refine⟨hi,by grind,fun j hj=>?_⟩
  intro hbj
  have hj2:en[j]? =some en[j]:=by simp
  grind [xd]
 have h1:(getObj g).run P w= .ok (.map en clock) w:=by simp[getObj,Sem.run,q2]
 have aS:∀o,(setObj g o).run P w= .ok () (w.putObj g o):=fun o=>by simp[setObj,Sem.run,q2,World.putObj]
 have amQ:(Instr.entryStore t (.map (some g)) (E.sv b) vy).run P w= .ok () (w.putObj g (.map (en.modify i fun e=>{e with val:=vy}) clock)):=by
  grind [Instr.entryStore,Sem.run_bind,Result.andThen_ok,asInt,asIntOf]
 have hw2:=h.hw.write (k':=.gp k0 u es e2 zk y true) hbk (by simp) (fun i hi=>World.putObj_heap_other (fun e=>hi (by grind))) (w':=w.putObj g (.map (en.modify i fun e=>{e with val:=vy}) clock)) ⟨hpm,n,g,_,_,n1,q1,World.putObj_heap_same hlt,fun hh=>absurd hin hh,by
  grind⟩
 refine⟨_,amQ,h.carry (kpo _) (fun _ _=>⟨rfl,rfl,rfl⟩) hw2,trivial,⟨rfl,Tp.r rfl rfl,rfl,by simp,?_,fun _ h=>h,fun _ h=>Or.inl h,fun i hi=>Or.inl (bx.jd hbk hi),fun _ _=>⟨rfl,rfl,rfl⟩⟩⟩
 intro i hi ho
 exact World.putObj_heap_other (fun e=>ho ⟨b,_,hbk,by rw[e];exact Or.inl q1⟩)
theorem RM.idx{k v:Ty}:∀{l:List MapEntry}{xs:List (k.den×v.den)}{i:Nat}{x:k.den×v.den},RM E w k v l xs→xs[i]? =some x→∃m,l[i]? =some m∧bZ E w (.val k x.1) m.key∧bZ E w (.val v x.2) m.val
 |[],[],_,_,_,h=>by simp at h
 |[],_::_,_,_,h,_=>h.elim
 |_::_,[],_,_,h,_=>h.elim
 |
  e::l,y::xs,0,x,⟨h1,h2,_⟩,h=>by
  grind
 |
  e::l,y::xs,i+1,x,⟨_,_,h3⟩,h=>by
  simp at h
  obtain⟨m,q1,q2⟩:=RM.idx (i:=i) h3 h
  exact⟨m,by simpa using q1,q2⟩
theorem yl{t:TypeId}{v0:Value}{g i:Nat}{m:MapEntry}(hu:P.underlying t=some (.map ke ve))(amX:w.heap[g]? =some (.map en clock))(q3:(Instr.checkKey false 10000 ke vk).run P w= .ok () w)
 (h1:en[i]? =some m) (h2:(Instr.findKey ke vk en.toList).run P w= .ok (some (i,v0)) w) (h3:(Instr.keyThatStays m.key vk).run P w= .ok vk w):(Instr.mapEntry t (.map (some g)) vk).run P w= .ok (.tuple #[v0,goInt m.born]) (w.putObj g (.map (en.modify i fun e=>{e with key:=vk}) clock)):=by
 simp_all[getObj,Sem.run,setObj,World.putObj,Instr.mapEntry,run_underlying]
def FW(P:Program)(G:bN)(hb:Nat→Option aO)(t:TypeId)(x k:AV):Option fF:=
 match jT G t,x with
 |
  some (ke,_,kt,vt),.mp b=>match hb b with
  |some (.mN k0 u es kx)=>if h:Ty.same k0 kt=true∧Ty.same u vt=true then(match k.bB kt with
   |some k'=>if k.plain then some ⟨.fU (.cons (.val u (aP k0 u kx es)) (.cons (.eQ b) .nil)),[(b,some (.mN k0 u (aZ k0 kx (aP k0 u kx es) es) kx))],[],[vc (iM P G 40 ke kt=true),vc (bl kt k' (Ty.aB h.1▸kx:kt.den)=true),vc (es.length+1≤aH)]⟩ else none
   |none=>none) else none
  |_=>none
 |_,_=>none
theorem Mx{k:kt.den}:∀{es:List (kt.den×vt.den)},bY kt k es 0=none→aP kt vt k es=vt.aD:=by
 have:∀(es:List (kt.den×vt.den))(i:Nat),bY kt k es i=none→aP kt vt k es=vt.aD:=by
  intro es
  induction es with
  |nil=>intro _ _;rfl
  |
   cons e es ih=>
   grind [bY,aP]
 grind
theorem zv(hk:kt.keyed=true){k:kt.den}{es:List (kt.den×α)}{i:Nat}{z:α}:bY kt k es 0=some (i,z)→es[i]? =some (k,z):=by
 have:∀(es:List (kt.den×α))(j i:Nat)(z:α),bY kt k es j=some (i,z)→j≤i∧es[i -j]? =some (k,z):=by
  intro es
  induction es with
  |nil=>intro j i z h;cases h
  |
   cons e es ih=>
   intro j i z h
   simp only[bY] at h
   split at h
   ·rename_i hb
    have:=(bO hk _ _).1 hb
    grind
   grind
 grind
theorem My{k:kt.den}{i:Nat}{z:vt.den}(h:bY kt k es 0=some (i,z)):aP kt vt k es=z:=by
 grind [sV]
theorem nj(hk:kt.keyed=true){k:kt.den}:∀{es:List (kt.den×α)}{i:Nat},bY kt k es i=none→k∉es.map (·.1)
 |[],_,_=>by simp
 |
  e::es,i,h=>by
  simp only[bY] at h
  split at h
  ·cases h
  ·rename_i hb
   simp only[dA,fg,not_or]
   exact⟨fun e1=>hb ((bO hk _ _).2 e1),nj hk h⟩
theorem xe{k:kt.den}{y:α}:∀{es:List (kt.den×α)}{i:Nat},bY kt k es i=none→aZ kt k y es=es++[(k,y)]
 |[],_,_=>rfl
 |
  e::es,i,h=>by
  simp only[bY] at h
  split at h
  ·cases h
  ·rename_i hb
   simp only[aZ,hb]
   simp[xe h]
theorem JM{G:bN}(T:bA P G){gl:Ctx}{a:Act}(h:bQ gl σ E a w)(hB:HB hb σ.hp){t:TypeId}{x k:AV}(hx:RV E w x vx)(hk:RV E w k vk){r:fF}(he:FW P G hb t x k=some r)(hvc:dD r.vc):
 ∃v w',(Instr.mapEntry t vx vk).run P w= .ok v w'∧bQ gl {σ with hp:=aS σ.hp r.hw} E a w'∧RV E w' r.v v∧Ext gl.md (bx σ.hp E) E w (bx (aS σ.hp r.hw) E) E w':=by
 unfold FW at he
 split at he
 case h_2=>cases he
 rename_i ke ve kt vt b hm
 obtain⟨hu,hke,_,⟨kd,h4,h5⟩,⟨vd,h6,h7⟩⟩:=fY T hm
 subst h5;subst h7
 split at he
 case h_2=>cases he
 rename_i k0 u es kx hbk0
 split at he
 case isFalse=>cases he
 rename_i hc
 obtain⟨c1,c2⟩:=hc
 have e1:=Ty.aB c1;subst e1
 have e2:=Ty.aB c2;subst e2
 split at he
 case h_2=>cases he
 rename_i k' hk'
 split at he
 case isFalse=>cases he
 rename_i p1
 cases he
 obtain⟨he,hkx,hlen,_⟩:=hvc
 have hkx:k'=kx:=(bO hke _ _).1 hkx
 subst hkx
 have hkv:bZ E w (.val kd.ty k') vk:=bZ.bB hk' (RV.jq p1 hk)
 have hbk:=hB b _ hbk0
 obtain⟨q1,q2,g,en,clock,q3,q4,q5,q6,q7,n,n1,n2,n3⟩:=h.hw.cQ b _ hbk
 obtain⟨g0,hg0,ex⟩:=RV.atom rfl hx
 simp at ex;subst ex
 rw[q3] at hg0;have hg0:=kN hg0;subst hg0
 obtain⟨r,r1,r2⟩:=lT T h4 he hkv q5
 have hck:=fR T (E:=E) (w:=w) false 9960 40 ke kd h4 he k' vk hkv
 have hlt:g<w.heap.size:=(Array.getElem?_eq_some_iff.1 q4).1
 have kpo:∀o,bE E w E (w.putObj g o):=fun o=>⟨fun i hi=>World.putObj_heap_other (fun e=>h.hw.jI b _ g hbk q3 (e▸hi)),fun _ h=>h⟩
 obtain⟨R1,R2⟩:=qW hu q4 hck
 have fin:∀(vv:Value)(en':Array MapEntry)(amL:Nat),bZ E w (.val vd.ty (aP kd.ty vd.ty k' es)) vv→(Instr.mapEntry t (.map (some g)) vk).run P w= .ok (.tuple #[vv,goInt n]) (w.putObj g (.map en' amL))→
  RB E (w.putObj g (.map en' amL)) b (.mN kd.ty vd.ty (aZ kd.ty k' (aP kd.ty vd.ty k' es) es) k')→
  ∃v' w',(Instr.mapEntry t (.map (some g)) vk).run P w= .ok v' w'∧bQ gl {σ with hp:=aS σ.hp [(b,some (.mN kd.ty vd.ty (aZ kd.ty k' (aP kd.ty vd.ty k' es) es) k'))]} E a w'∧RV E w' (.fU (.cons (.val vd.ty (aP kd.ty vd.ty k' es)) (.cons (.eQ b) .nil))) v'∧Ext gl.md (bx σ.hp E) E w (bx (aS σ.hp [(b,some (.mN kd.ty vd.ty (aZ kd.ty k' (aP kd.ty vd.ty k' es) es) k'))]) E) E w':=by
  intro vv en' amL hv amQ hrb2
  have hw2:=h.hw.write hbk (by simp) (fun i hi=>World.putObj_heap_other (fun e=>hi (by grind))) hrb2
  refine⟨_,_,amQ,h.carry (kpo _) (fun _ _=>⟨rfl,rfl,rfl⟩) hw2,⟨#[vv,goInt n],rfl,bZ.mono (kpo _) (fun _ _=>⟨rfl,rfl,rfl⟩) hv,Or.inr ⟨rfl,by rw[n1];rfl,n,n1⟩,rfl⟩,⟨rfl,Tp.r rfl rfl,rfl,by simp,?_,fun _ h=>h,fun _ h=>Or.inl h,fun i hi=>Or.inl (bx.jd hbk hi),fun _ _=>⟨rfl,rfl,rfl⟩⟩⟩
  intro i hi ho
  exact World.putObj_heap_other (fun e=>ho ⟨b,_,hbk,by rw[e];exact Or.inl q3⟩)
 cases hf:bY kd.ty k' es 0 with
 |
  none=>
  rw[hf] at r2
  cases r with
  |some _=>trivial
  |
   none=>
   have hnm:=nj hke hf
   have hn:n=clock:=n2 hnm
   obtain⟨z,z1,z2,z3⟩:=T.zero h6 w
   have hz:bZ E w (.val vd.ty vd.ty.aD) z:=by
    have hr:=(fN (E:=E) (w:=w) z2).2 (by grind)
    cases z with
    |agg cs=>exact Or.inl ⟨by simp only[EY] at z3;exact z3.symm,cs,rfl,hr⟩
    |_=>exact Or.inr ⟨by simp only[EY] at z3;exact z3.symm,by trivial⟩
   have hg0:=Mx hf
   refine fin z (en.push {key:=vk,val:=z,born:=clock}) (clock+1) (by grind) (by grind) ⟨cU hke q1,dh dy hlen,g,_,_,q3,World.putObj_heap_same hlt,?_,?_,?_,n,n1,?_,?_⟩
   ·grind [RM.mono,RM.push]
   ·grind
   ·grind
   ·grind [xe]
   ·intro i m y hi hm'
    rw[xe hf] at hi
    have hsz:en.size=es.length:=by have:=RM.len q5;grind
    grind
 |
  some p=>
  obtain⟨i,y⟩:=p
  rw[hf] at r2
  cases r with
  |none=>trivial
  |
   some q=>
   obtain⟨i',v0⟩:=q
   obtain⟨e1,e2⟩:=r2
   simp only at e1 e2
   subst e1
   have s1:=zv hke hf
   obtain⟨m,s2,s3,s4⟩:=RM.idx q5 s1
   have s2':en[i]? =some m:=by grind
   have hy:=My hf
   have hb:=n3 i m y s1 s2'
   obtain⟨f1,f2⟩:=bZ.fn hke s3 hkv
   have hstay:(Instr.keyThatStays m.key vk).run P w= .ok vk w:=by
    simp_all[Instr.keyThatStays]
   have aS:aZ kd.ty k' y es=es:=by
    rw[qU hke q1 s1]
    apply List.ext_getElem?
    grind
   have hset2:aZ kd.ty k' (aP kd.ty vd.ty k' es) es=es:=by grind
   have hgl:∀(j:Nat)(m':MapEntry),(en.modify i fun e=>{e with key:=vk})[j]? =some m'→∃m0:MapEntry,en[j]? =some m0∧m'.born=m0.born:=by
    grind
   refine fin v0 (en.modify i fun e=>{e with key:=vk}) clock (by grind) (by grind [yl]) ?_
   rw[hset2]
   refine⟨q1,q2,g,_,_,q3,World.putObj_heap_same hlt,?_,?_,?_,n,n1,fun hh=>absurd (List.mem_map.2 ⟨_,kL s1,rfl⟩) hh,?_⟩
   ·refine RM.mono (kpo _) ?_
    obtain⟨t1,_⟩:=RM.P5 (i:=0) (j:=i) hke hkv s4 q5 (by rw[eN];exact hf)
    rw[aS] at t1
    rw[Array.toList_modify]
    have:en.toList.modify i (fun e=>{e with key:=vk})=en.toList.modify i (fun e=>{e with key:=vk,val:=m.val}):=by
     apply List.ext_getElem?
     grind
    grind
   ·intro x hx
    obtain⟨j,hj⟩:=List.getElem?_of_mem hx
    grind
   ·have:(en.modify i fun e=>{e with key:=vk}).toList.map (·.born)=en.toList.map (·.born):=by
     rw[Array.toList_modify]
     apply List.ext_getElem?
     grind
    grind
   grind
def FX(_G:bN)(hb:Nat→Option aO)(x s y:AV):Option fF:=
 match x,s with
 |
  .mp b,.eQ c=>match hb b with
  |
   some (.mN k0 u es kx)=>match y.bB u with
   |some y'=>if Nat.beq b c&&k0.keyed&&y.plain then some ⟨.bot,[(b,some (.map k0 u (aZ k0 kx y' es)))],[],[vc (bT k0 kx es=true)]⟩ else none
   |none=>none
  |_=>none
 |_,_=>none
theorem Mz(_hk:kt.keyed=true){k:kt.den}:∀{es:List (kt.den×α)},bT kt k es=true→∃i z,bY kt k es 0=some (i,z):=by
 have:∀(es:List (kt.den×α))(j:Nat),bT kt k es=true→∃i z,bY kt k es j=some (i,z):=by
  intro es
  induction es with
  |nil=>intro j h;cases h
  |
   cons e es ih=>
   intro j h
   simp only[bT,fK] at h
   simp only[bY]
   split<;>simp_all
 simp_all
theorem JN{G:bN}{gl:Ctx}{a:Act}(h:bQ gl σ E a w)(hB:HB hb σ.hp){t:TypeId}{x s y:AV}{vs:Value}(hx:RV E w x vx)(hs:RV E w s vs)(hy:RV E w y vy){r:fF}(he:FX G hb x s y=some r)(hvc:dD r.vc):
 ∃w',(Instr.entryStore t vx vs vy).run P w= .ok () w'∧bQ gl {σ with hp:=aS σ.hp r.hw} E a w'∧RV E w' r.v undef∧Ext gl.md (bx σ.hp E) E w (bx (aS σ.hp r.hw) E) E w':=by
 unfold FX at he
 split at he
 case h_2=>cases he
 rename_i b c
 split at he
 case h_2=>cases he
 rename_i k0 u es kx hbk0
 split at he
 case h_2=>cases he
 rename_i y' hy'
 split at he
 case isFalse=>cases he
 rename_i hpl
 cases he
 obtain⟨hmh,_⟩:=hvc
 simp only[bj] at hpl
 obtain⟨⟨p0,hke⟩,p2⟩:=hpl
 have p0:=bM p0;subst p0
 have hyv:bZ E w (.val u y') vy:=bZ.bB hy' (RV.jq p2 hy)
 have hbk:=hB b _ hbk0
 obtain⟨q1,q2,g,en,clock,q3,q4,q5,q6,q7,n,n1,n2,n3⟩:=h.hw.cQ b _ hbk
 obtain⟨g0,hg0,ex⟩:=RV.atom rfl hx
 simp at ex;subst ex
 rw[q3] at hg0;have hg0:=kN hg0;subst hg0
 obtain⟨es1,_⟩:=RV.atom rfl hs
 simp at es1;subst es1
 have kpo:∀o,bE E w E (w.putObj g o):=fun o=>⟨fun i hi=>World.putObj_heap_other (fun e=>h.hw.jI b _ g hbk q3 (e▸hi)),fun _ h=>h⟩
 have hlt:g<w.heap.size:=(Array.getElem?_eq_some_iff.1 q4).1
 obtain⟨i,z,hf⟩:=Mz hke hmh
 have s1:=zv hke hf
 obtain⟨m,s2,s3,s4⟩:=RM.idx q5 s1
 have s2':en[i]? =some m:=by grind
 have hb:=n3 i m z s1 s2'
 have hfind:en.findIdx? (fun e=>(e.born:Int)==(n:Int))=some i:=by
  rw[Array.findIdx?_eq_some_iff_getElem]
  obtain⟨hi,hm⟩:=Array.getElem?_eq_some_iff.1 s2'
  refine⟨hi,by grind,fun j hj=>?_⟩
  intro hbj
  have hj2:en[j]? =some en[j]:=by simp
  grind [xd]
 have h1:(getObj g).run P w= .ok (.map en clock) w:=by simp[getObj,Sem.run,q4]
 have aS:∀o,(setObj g o).run P w= .ok () (w.putObj g o):=fun o=>by simp[setObj,Sem.run,q4,World.putObj]
 have amQ:(Instr.entryStore t (.map (some g)) (E.sv b) vy).run P w= .ok () (w.putObj g (.map (en.modify i fun e=>{e with val:=vy}) clock)):=by
  grind [Instr.entryStore,Sem.run_bind,Result.andThen_ok,asInt,asIntOf]
 have hrb:RB E (w.putObj g (.map (en.modify i fun e=>{e with val:=vy}) clock)) b (.map k0 u (aZ k0 kx y' es)):=by
  have hgl:∀(j:Nat)(m':MapEntry),(en.modify i fun e=>{e with val:=vy})[j]? =some m'→∃m0:MapEntry,en[j]? =some m0∧m'.born=m0.born:=by
   grind
  have hl:(aZ k0 kx y' es).length=es.length:=by rw[qU hke q1 s1];simp
  refine⟨cU hke q1,by grind,g,_,_,q3,World.putObj_heap_same hlt,?_,?_,?_⟩
  ·refine RM.mono (kpo _) ?_
   obtain⟨t1,_⟩:=RM.P5 (i:=0) (j:=i) hke s3 hyv q5 (by rw[eN];exact hf)
   rw[Array.toList_modify]
   have:en.toList.modify i (fun e=>{e with val:=vy})=en.toList.modify i (fun e=>{e with key:=m.key,val:=vy}):=by
    apply List.ext_getElem?
    grind
   grind
  ·grind [List.getElem?_of_mem]
  ·have:(en.modify i fun e=>{e with val:=vy}).toList.map (·.born)=en.toList.map (·.born):=by
    rw[Array.toList_modify]
    apply List.ext_getElem?
    grind
   grind
 have hw2:=h.hw.write (k':=.map k0 u (aZ k0 kx y' es)) hbk (by simp) (fun i hi=>World.putObj_heap_other (fun e=>hi (by grind))) (w':=w.putObj g (.map (en.modify i fun e=>{e with val:=vy}) clock)) hrb
 refine⟨_,amQ,h.carry (kpo _) (fun _ _=>⟨rfl,rfl,rfl⟩) hw2,trivial,⟨rfl,Tp.r rfl rfl,rfl,by simp,?_,fun _ h=>h,fun _ h=>Or.inl h,fun i hi=>Or.inl (bx.jd hbk hi),fun _ _=>⟨rfl,rfl,rfl⟩⟩⟩
 intro i hi ho
 exact World.putObj_heap_other (fun e=>ho ⟨b,_,hbk,by rw[e];exact Or.inl q3⟩)
def Ip:Ty→Bool
 | .aT .func=>true
 |_=>false
theorem MA{t:Ty}(h:Ip t=true):t= .aT .func:=by
 grind [Ip]
def UF(k0:Ty)(k:k0.den):List (k0.den×AV)→List VC
 |[]=>[]
 |x::l=>vc (bl k0 k x.1=false)::UF k0 k l
def PR(P:Program)(G:bN)(td:TD)(b:Nat)(k0:Ty)(l:List (k0.den×AV))(k v:AV):Option fF:=
 match G.at td.e,k.bB k0 with
 |some kd,some k'=>if td.ty.mS&&k0.keyed&&Ty.same k0 kd.ty&&k.plain&&v.plain&& !v.isAgg then some ⟨.bot,[(b,some (.iu k0 (l++[(k',v)])))],[],vc (iM P G 40 td.e k0=true)::vc (l.length+1≤aH)::UF k0 k' l⟩ else none
 |_,_=>none
def FY(P:Program)(G:bN)(hb:Nat→Option aO)(t:TypeId)(x k v:AV):Option fF:=
 match G.at t,x with
 |
  some td,.mp b=>match hb b with
  |some (.map k0 u [])=>if Ip u then PR P G td b k0 [] k v else none
  |some (.iu k0 l)=>PR P G td b k0 l k v
  |_=>none
 |_,_=>none
def okF(ok:Bool)(x:AV)(b:Bool):AV:=match ok with
 |true=>.fU (.cons x (.cons (.val .bool b) .nil))
 |false=>x
def ml(ok:Bool)(k0:Ty)(k:k0.den):List (k0.den×AV)→AV
 |[]=>okF ok .fv false
 |x::l=>if bl k0 k x.1=true then okF ok x.2 true else ml ok k0 k l
def vb(P:Program)(G:bN)(hb:Nat→Option aO)(ok:Bool)(t:TypeId)(x k:AV):Option (AV×List VC):=
 match G.at t,x with
 |
  some td,.mp b=>match hb b with
  |
   some (.iu k0 l)=>match G.at td.e,G.at td.e2,k.bB k0 with
   |some kd,some vd,some k'=>if td.ty.mS&&k0.keyed&&Ty.same k0 kd.ty&&k.plain&&Ip vd.ty then some (ml ok k0 k' l,[vc (iM P G 40 td.e k0=true)]) else none
   |_,_,_=>none
  |_=>none
 |_,_=>none
theorem RF.rk{k:Ty}:∀{en:List MapEntry}{l:List (k.den×AV)},RF E w k en l→RK E w k en l
 |[],[],_=>trivial
 |[],_::_,h=>h.elim
 |_::_,[],h=>h.elim
 |_::_,_::_,h=>⟨h.1,RF.rk h.2.2.2⟩
theorem RF.get{k:Ty}:∀{en:List MapEntry}{l:List (k.den×AV)}{i:Nat}{x:k.den×AV},RF E w k en l→l[i]? =some x→∃m,en[i]? =some m∧RC E w x.2 [m.val]∧x.2.isAgg=false
 |[],[],i,x,_,hx=>by grind
 |[],_::_,_,_,h,_=>h.elim
 |_::_,[],_,_,h,_=>h.elim
 |m::_,_::_,0,x,h,hx=>by simp at hx;subst hx;exact⟨m,rfl,h.2.1,h.2.2.1⟩
 |_::_,_::_,i+1,x,h,hx=>by simpa using RF.get h.2.2.2 (by simpa using hx)
theorem RF.snoc{k:Ty}{m:MapEntry}{x:k.den×AV}(h1:bZ E w (.val k x.1) m.key)(h2:RC E w x.2 [m.val])(h3:x.2.isAgg=false):∀{en:List MapEntry}{l:List (k.den×AV)},RF E w k en l→RF E w k (en++[m]) (l++[x])
 |[],[],_=>⟨h1,h2,h3,trivial⟩
 |[],_::_,h=>h.elim
 |_::_,[],h=>h.elim
 |_::_,_::_,h=>⟨h.1,h.2.1,h.2.2.1,RF.snoc h1 h2 h3 h.2.2.2⟩
variable{k0:Ty}
theorem Iq(hk:k0.keyed=true){k:k0.den}:∀{l:List (k0.den×AV)},dD (UF k0 k l)→k∉l.map (·.1)
 |[],_=>by simp
 |
  x::l,⟨h1,h2⟩=>by
  have h1:bl k0 k x.1=false:=h1
  simp only[dA,fg,not_or]
  refine⟨fun e=>?_,Iq hk h2⟩
  rw[(bO hk _ _).2 e] at h1;cases h1
theorem DR{ok:Bool}(hk:k0.keyed=true){k:k0.den}:∀{l:List (k0.den×AV)}{i:Nat}{v:AV},(l.map (·.1)).Nodup→l[i]? =some (k,v)→ml ok k0 k l=okF ok v true
 |[],i,v,_,h=>by simp at h
 |x::l,0,v,_,h=>by simp_all[ml,bO]
 |
  x::l,i+1,v,hn,h=>by
  simp only[dA,kM] at hn
  have hm:l[i]? =some (k,v):=by grind
  have hne:¬bl k0 k x.1=true:=fun e=>hn.1 (by rw[←(bO hk _ _).1 e];grind)
  simp only[ml];rw[aC hne];exact DR hk hn.2 hm
theorem DT{ok:Bool}(hk:k0.keyed=true){k:k0.den}:∀{l:List (k0.den×AV)},k∉l.map (·.1)→ml ok k0 k l=okF ok .fv false
 |[],_=>rfl
 |
  x::l,h=>by
  simp only[dA,fg,not_or] at h
  simp only[ml];rw[aC (fun e=>h.1 ((bO hk _ _).1 e))];exact DT hk h.2
theorem Ir{G:bN}(T:bA P G){l:List (k0.den×AV)}{en:List MapEntry}(hk:k0.keyed=true)(h4:G.at td.e=some kd)(hs:Ty.same k0 kd.ty=true)(he:iM P G 40 td.e k0=true)(hr:RF E w k0 en l){k':k0.den}(hkv:bZ E w (.val k0 k') vk):
 (∀em,(Instr.checkKey em 10000 td.e vk).run P w= .ok () w)∧∃r,(Instr.findKey td.e vk en).run P w= .ok r w∧((r=none∧k'∉l.map (·.1))∨∃i v m,r=some (i,m.val)∧l[i]? =some (k',v)∧en[i]? =some m):=by
 have e:=Ty.aB hs
 subst e
 refine⟨fun em=>fR T (E:=E) (w:=w) em 9960 40 _ kd h4 he k' vk hkv,?_⟩
 obtain⟨r,r1,r2⟩:=DQ T h4 he hkv hr.rk
 refine⟨r,r1,?_⟩
 cases hf:bY kd.ty k' l 0 with
 |
  none=>
  rw[hf] at r2
  cases r with
  |none=>exact Or.inl ⟨rfl,pI hk hf⟩
  |some _=>trivial
 |
  some p=>
  obtain⟨i,y⟩:=p
  rw[hf] at r2
  cases r with
  |none=>trivial
  |
   some q=>
   obtain⟨i',u⟩:=q
   obtain⟨e1,_,m,e2,e3⟩:=r2
   simp only[Nat.sub_zero] at e1 e2 e3
   subst e1;subst e3
   have:=(pF hk hf).2
   grind
theorem Is{G:bN}(T:bA P G){gl:Ctx}{a:Act}(h:bQ gl σ E a w){t:TypeId}(ht:G.at t=some td){b:Nat}{l:List (k0.den×AV)}{k v:AV}(hk:RV E w k vk)(hv:RV E w v vv){r:fF}(he:PR P G td b k0 l k v=some r)(hvc:dD r.vc)
 {kb:aO} (hbk:σ.hp[b]? =some (some kb)) (hrb:RB E w b (.iu k0 l)) {g:Nat} (hg:E.g b=some g):
 ∃w',(Instr.mapUpdate t (.map (some g)) vk vv).run P w= .ok () w'∧bQ gl {σ with hp:=aS σ.hp r.hw} E a w'∧RV E w' r.v undef∧Ext gl.md (bx σ.hp E) E w (bx (aS σ.hp r.hw) E) E w':=by
 unfold PR at he
 split at he
 case h_2=>cases he
 rename_i kd k' h4 hk'
 split at he
 case isFalse=>cases he
 rename_i hc
 cases he
 simp only[bj,gZ] at hc
 obtain⟨⟨⟨⟨⟨c1,c2⟩,c3⟩,c4⟩,c5⟩,c6⟩:=hc
 obtain⟨he,hlen,hdif⟩:=hvc
 have hn:=Iq c2 hdif
 have hu:=T.mapOf ht c1
 have hkv:bZ E w (.val k0 k') vk:=bZ.bB hk' (RV.jq c4 hk)
 have hvv:RC E w v [vv]:=by
  rcases RV.jq c5 hv with⟨hh,_⟩|⟨_,hh⟩<;>grind
 obtain⟨z1,z2,g',en,clock,q1,q2,q3⟩:=hrb
 rw[hg] at q1;cases q1
 obtain⟨k1,r,k2,k3⟩:=Ir T c2 h4 c3 he q3 hkv
 rcases k3 with⟨e,_⟩|⟨i,y,m,_,s1,_⟩
 case inr=>grind
 subst e
 have h1:(getObj g).run P w= .ok (.map en clock) w:=by simp[getObj,Sem.run,q2]
 have aS:∀o,(setObj g o).run P w= .ok () (w.putObj g o):=fun o=>by simp[setObj,Sem.run,q2,World.putObj]
 have hlt:g<w.heap.size:=(Array.getElem?_eq_some_iff.1 q2).1
 have kpo:∀o,bE E w E (w.putObj g o):=fun o=>⟨fun i hi=>World.putObj_heap_other (fun e=>h.hw.jI b _ g hbk hg (e▸hi)),fun _ h=>h⟩
 have amQ:(Instr.mapUpdate t (.map (some g)) vk vv).run P w= .ok () (w.putObj g (.map (en.push {key:=vk,val:=vv,born:=clock}) (clock+1))):=by
  simp_all[Instr.mapUpdate,run_underlying]
 have hw2:=h.hw.write (k':=.iu k0 (l++[(k',v)])) hbk (by simp) (fun i hi=>World.putObj_heap_other (fun e=>hi (by grind))) (w':=w.putObj g (.map (en.push {key:=vk,val:=vv,born:=clock}) (clock+1))) ⟨by
  grind,by grind,g,_,_,hg,World.putObj_heap_same hlt,by
  rw[Array.toList_push]
  exact RF.snoc (bZ.mono (kpo _) (fun _ hb=>by cases hb) hkv) (RC.mono (kpo _) (fun _ _=>⟨rfl,rfl,rfl⟩) hvv) c6 (RF.mono (kpo _) (fun _ _=>⟨rfl,rfl,rfl⟩) q3)⟩
 refine⟨_,amQ,h.carry (kpo _) (fun _ _=>⟨rfl,rfl,rfl⟩) hw2,trivial,⟨rfl,Tp.r rfl rfl,rfl,by simp,?_,fun _ h=>h,fun _ h=>Or.inl h,fun i hi=>Or.inl (bx.jd hbk hi),fun _ _=>⟨rfl,rfl,rfl⟩⟩⟩
 intro i hi ho
 exact World.putObj_heap_other (fun e=>ho ⟨b,_,hbk,by rw[e];exact Or.inl hg⟩)
theorem JO{G:bN}(T:bA P G){gl:Ctx}{a:Act}(h:bQ gl σ E a w)(hB:HB hb σ.hp){t:TypeId}{x k v:AV}(hx:RV E w x vx)(hk:RV E w k vk)(hv:RV E w v vv){r:fF}(he:FY P G hb t x k v=some r)(hvc:dD r.vc):
 ∃w',(Instr.mapUpdate t vx vk vv).run P w= .ok () w'∧bQ gl {σ with hp:=aS σ.hp r.hw} E a w'∧RV E w' r.v undef∧Ext gl.md (bx σ.hp E) E w (bx (aS σ.hp r.hw) E) E w':=by
 unfold FY at he
 split at he
 case h_2=>cases he
 rename_i td b ht
 obtain⟨g0,hg0,ex⟩:=RV.atom rfl hx
 simp at ex;subst ex
 split at he
 ·rename_i k0 u hbk0
  split at he
  case isFalse=>cases he
  have hbk:=hB b _ hbk0
  obtain⟨z1,z2,g,en,clock,q1,q2,q3,_⟩:=h.hw.cQ b _ hbk
  refine Is T h ht hk hv he hvc hbk ⟨by simp,by simp,g,en,clock,q1,q2,?_⟩ hg0
  cases hen:en.toList with
  |nil=>trivial
  |cons m l=>rw[hen] at q3;exact q3.elim
 ·rename_i k0 l hbk0
  have hbk:=hB b _ hbk0
  exact Is T h ht hk hv he hvc hbk (h.hw.cQ b _ hbk) hg0
 ·cases he
theorem F0{G:bN}(T:bA P G){gl:Ctx}(hw:HW gl E w hp)(hB:HB hb hp){ok:Bool}{t:TypeId}{x k:AV}(hx:RV E w x vx)(hk:RV E w k vk){r:AV}(h:vb P G hb ok t x k=some (r,vcs))(hvc:dD vcs):
 ∃v,(Instr.lookup t vx vk ok).run P w= .ok v w∧RV E w r v:=by
 unfold vb at h
 split at h
 case h_2=>cases h
 rename_i td b ht
 split at h
 case h_2=>cases h
 rename_i k0 l hbk0
 split at h
 case h_2=>cases h
 rename_i kd vd k' h4 h6 hk'
 split at h
 case isFalse=>cases h
 rename_i hc
 cases h
 simp only[bj] at hc
 obtain⟨⟨⟨⟨c1,c2⟩,c3⟩,c4⟩,c5⟩:=hc
 obtain⟨he,_⟩:=hvc
 have hu:=T.mapOf ht c1
 have hkv:bZ E w (.val k0 k') vk:=bZ.bB hk' (RV.jq c4 hk)
 obtain⟨g0,hg0,ex⟩:=RV.atom rfl hx
 simp at ex;subst ex
 obtain⟨z1,z2,g,en,clock,q1,q2,q3⟩:=hw.cQ b _ (hB b _ hbk0)
 rw[q1] at hg0;cases hg0
 obtain⟨k1,rr,k2,k3⟩:=Ir T c2 h4 c3 he q3 hkv
 have h1:(getObj g0).run P w= .ok (.map en clock) w:=by simp[getObj,Sem.run,q2]
 rcases k3 with⟨e,hn⟩|⟨i,y,m,e,s1,s2⟩
 ·subst e
  obtain⟨z,y1,y2,y3⟩:=T.zero h6 w
  have hz:=MA c5
  rw[hz] at y2 y3
  have hzz:RC E w .fv [z]:=by
   have:=(fN (E:=E) (w:=w) y2).1
   cases z with
   |agg cs=>trivial
   |_=>trivial
  rw[DT c2 hn]
  cases ok with
  |
   true=>
   refine⟨.tuple #[z,.bool false],by simp only[Instr.lookup,Sem.run_bind,run_underlying hu,Result.andThen_ok,Sem.run_pure,h1,k1,k2,y1];rfl,?_⟩
   exact⟨#[z,.bool false],rfl,Or.inr ⟨rfl,hzz⟩,RV.bool,rfl⟩
  |
   false=>
   refine⟨z,by simp only[Instr.lookup,Sem.run_bind,run_underlying hu,Result.andThen_ok,Sem.run_pure,h1,k1,k2,y1];rfl,?_⟩
   exact RV.eS (Or.inr ⟨rfl,hzz⟩)
 ·subst e
  obtain⟨m',r1,r2,r3⟩:=RF.get q3 s1
  rw[s2] at r1;cases r1
  rw[DR c2 z1 s1]
  cases ok with
  |
   true=>
   refine⟨.tuple #[m.val,.bool true],by simp only[Instr.lookup,Sem.run_bind,run_underlying hu,Result.andThen_ok,Sem.run_pure,h1,k1,k2];rfl,?_⟩
   exact⟨#[m.val,.bool true],rfl,Or.inr ⟨r3,r2⟩,RV.bool,rfl⟩
  |
   false=>
   refine⟨m.val,by simp only[Instr.lookup,Sem.run_bind,run_underlying hu,Result.andThen_ok,Sem.run_pure,h1,k1,k2];rfl,?_⟩
   exact RV.eS (Or.inr ⟨r3,r2⟩)
def zw(P:Program)(G:bN)(op:Op)(ev:Operand→AV)(hb:Nat→Option aO):Option fF:=
 match op with
 |
  .mapEntry t x k=>match FQ P G hb t (ev x) (ev k) with
  |some e=>some e
  |none=>FW P G hb t (ev x) (ev k)
 |
  .entryStore _ x s y=>match FU hb (ev x) (ev s) (ev y) with
  |some e=>some e
  |none=>FX G hb (ev x) (ev s) (ev y)
 | .insert t x k v=>FY P G hb t (ev x) (ev k) (ev v)
 | .lookup t x k ok=>(vb P G hb ok t (ev x) (ev k)).map .N2
 |_=>none
theorem MB{G:bN}(T:bA P G){gl:Ctx}{a:Act}(h:bQ gl σ E a w){o:Oper}(hB:HB hb σ.hp){r:fF}
 (hev:∀x∈o.op.operands.toList,RV E w (ev x) (a.eval x)) (he:zw P G o.op ev hb=some r) (hvc:dD r.vc):bS P gl σ E a w o r:=by
 unfold zw at he
 split at he
 ·rename_i t x k hop
  split at he
  ·rename_i e hp
   cases he
   obtain⟨v,w',h1,h2,h3,h4⟩:=JK T h hB (hev x (by simp[hop,Op.operands])) (hev k (by simp[hop,Op.operands])) hp hvc
   exact⟨_,v,w',E,by simp[execOp,hop,h1],Or.inl rfl,h2,h3,h4⟩
  ·obtain⟨v,w',h1,h2,h3,h4⟩:=JM T h hB (hev x (by simp[hop,Op.operands])) (hev k (by simp[hop,Op.operands])) he hvc
   exact⟨_,v,w',E,by simp[execOp,hop,h1],Or.inl rfl,h2,h3,h4⟩
 ·rename_i t x s y hop
  split at he
  ·rename_i e hp
   cases he
   obtain⟨w',h1,h2,h3,h4⟩:=JL (P:=P) (t:=t) h hB (hev x (by simp[hop,Op.operands])) (hev s (by simp[hop,Op.operands])) (hev y (by simp[hop,Op.operands])) hp
   exact⟨_,undef,w',E,by simp[execOp,hop,h1],Or.inr ⟨rfl,rfl⟩,h2,h3,h4⟩
  ·obtain⟨w',h1,h2,h3,h4⟩:=JN (P:=P) (G:=G) (t:=t) h hB (hev x (by simp[hop,Op.operands])) (hev s (by simp[hop,Op.operands])) (hev y (by simp[hop,Op.operands])) he hvc
   exact⟨_,undef,w',E,by simp[execOp,hop,h1],Or.inr ⟨rfl,rfl⟩,h2,h3,h4⟩
 ·rename_i t x k v hop
  obtain⟨w',h1,h2,h3,h4⟩:=JO T h hB (hev x (by simp[hop,Op.operands])) (hev k (by simp[hop,Op.operands])) (hev v (by simp[hop,Op.operands])) he hvc
  exact⟨_,undef,w',E,by simp[execOp,hop,h1],Or.inr ⟨rfl,rfl⟩,h2,h3,h4⟩
 ·rename_i t x k ok hop
  obtain⟨⟨u,vc⟩,hu,rfl⟩:=Option.map_eq_some_iff.1 he
  obtain⟨v,h1,h2⟩:=F0 T h.hw hB (hev x (by simp[hop,Op.operands])) (hev k (by simp[hop,Op.operands])) hu hvc
  exact bS.same h (v:=v) (by simp[execOp,hop,h1]) h2
 grind
end Go.Ax
noncomputable section
namespace Go.Ax
def gx(need:List Nat)(hp:List (Option aO))(b:Nat):Option aO:=if cq b need then(hp[b]?).join else none
def MC:Operand→List Nat
 | .tmp t=>[t]
 |_=>[]
def slotsOf(l:List Operand):List Nat:=l.flatMap MC
def kY(ops:Array Oper)(o:Oper):Option Nat:=
 match o.guard with
 |none=>none
 |some (j,_)=>(ops[j]?).bind (·.dst)
def Yf:Bool→Bool→Bool
 |true,b=>b
 |false,b=> !b
def guardOf(ops:Array Oper)(tm:List AV)(o:Oper):Option Bool:=
 match o.guard with
 |none=>some true
 |
  some (j,want)=>match(ops[j]?).bind (·.dst) with
  |
   some t=>match tm[t]? with
   |some (.val .bool b)=>some (Yf b want)
   |some (.fU .nil)=>some false
   |_=>none
  |none=>none
def Tm:Option Nat→Nat
 |some d=>d+16
 |none=>16
def lK:Op→Bool
 | .call {callee:=.builtin _, .. }=>false
 | .call _=>true
 |_=>false
def qX(P:Program)(G:bN)(d:Nat)(op:Op)(ev:Operand→AV)(hb:Nat→Option aO):Option fF:=
 match Jy P G d op ev hb with
 |some e=>some e
 |
  none=>match zP P G d op ev hb with
  |some e=>some e
  |
   none=>match zU P G d op ev with
   |some e=>some e
   |
    none=>match zV G op ev with
    |some e=>some e
    |
     none=>match zt P G op ev hb with
     |some e=>some e
     |
      none=>match zu G d op ev hb with
      |some e=>some e
      |none=>zw P G op ev hb
variable{hb:Nat→Option aO}{P:Program}{ev:Operand→AV}
theorem MD{G:bN}{d:Nat}{op:Op}{r:fF}(h:qX P G d op ev hb=some r):∀c,op≠.defer c:=by
 grind [qX,Jy,zP,zU,zV,zt,zu,zw]
variable{E:Env}{σ:St}{w:World}
theorem DU{G:bN}(T:bA P G){gl:Ctx}{a:Act}(h:bQ gl σ E a w){o:Oper}{d:Nat}(hB:HB hb σ.hp){r:fF}
 (hev:∀x∈o.op.operands.toList,RV E w (ev x) (a.eval x)) (hids:∀x∈o.op.operands.toList,∀b∈(ev x).ids,b∈σ.ids) (he:qX P G d o.op ev hb=some r) (hvc:dD r.vc) (hfr:∀b∈r.fr,σ.fresh b):bS P gl σ E a w o r:=by
 grind [qX,LA,Nb,Nl,Nn,Mv,Mw,MB]
theorem DV{G:bN}{d:Nat}{ok:Bool}{t:TypeId}{x k:Operand}{r:fF}(h:qX P G d (.lookup t x k ok) ev hb=some r){b:Nat}{k0:Ty}{l:List (k0.den×AV)}{k':k0.den}(hx:ev x= .mp b)(hbk:∀kb,hb b=some kb→kb= .iu k0 l)(hk:(ev k).bB k0=some k'):r.v=ml ok k0 k' l:=by
 have h2:zP P G d (.lookup t x k ok) ev hb=none:=by
  show(nA P G hb t (ev x) (ev k) ok).map fF.N2=none
  grind [nA,rz,Be]
 have h5:zt P G (.lookup t x k ok) ev hb=none:=by
  cases ok with
  |true=>rfl
  |
   false=>
   show(qV P G hb t (ev x) (ev k)).map fF.N2=none
   unfold qV
   grind
 unfold qX at h
 rw[show Jy P G d (.lookup t x k ok) ev hb=none from rfl,h2,show zU P G d (.lookup t x k ok) ev=none from rfl,show zV G (.lookup t x k ok) ev=none from rfl,h5,show zu G d (.lookup t x k ok) ev hb=none from rfl] at h
 simp only[zw,gW] at h
 obtain⟨⟨u,vc⟩,hu,rfl⟩:=h
 unfold vb at hu
 rw[hx] at hu
 split at hu
 case h_2=>cases hu
 rename_i td b' ht heq
 cases heq
 split at hu
 case h_2=>cases hu
 rename_i k0' l' hh
 have:=hbk _ hh
 cases this
 split at hu
 case h_2=>cases hu
 rename_i kd vd k2 _ _ hk2
 rw[hk] at hk2;cases hk2
 split at hu
 ·cases hu;rfl
 grind
def jr(us:List Nat)(hb:Nat→Option aO):List (Nat×Option aO)→List (Nat×Option aO)×List VC
 |[]=>([],[])
 |
  x::l=>match x.2 with
  |some k=>if cq x.1 us then((jr us hb l).1,⟨hb x.1=some k,Classical.propDecidable _⟩::(jr us hb l).2) else(x::(jr us hb l).1,(jr us hb l).2)
  |none=>(x::(jr us hb l).1,(jr us hb l).2)
theorem pJ{us:List Nat}{hp0:List (Option aO)}(hB:HB hb hp0):∀{l:List (Nat×Option aO)}{hp:List (Option aO)},(∀b∈l.map (·.1),hp[b]? =hp0[b]?)→(l.map (·.1)).Nodup→dD (jr us hb l).2→aS hp (jr us hb l).1=aS hp l
 |[],_,_,_,_=>rfl
 |
  (b,k)::l,hp,h,hn,hv=>by
  simp only[dA,kM] at hn
  have D0:dD (jr us hb l).2→aS (hp.set b k) (jr us hb l).1=aS (hp.set b k) l:=fun hv=>pJ hB (fun c hc=>by
   have:b≠c:=fun e=>hn.1 (e▸hc)
   rw[List.getElem?_set_ne this]
   exact h c (dj _ hc)) hn.2 hv
  cases k with
  |none=>simp only[jr] at hv ⊢;exact D0 hv
  |
   some k=>
   by_cases hu:cq b us=true
   ·simp only[jr,aA hu] at hv ⊢
    have e:hp[b]? =some (some k):=by
     rw[h b (cm ..)]
     exact hB b k hv.1
    have e2:hp.set b (some k)=hp:=by
     apply List.ext_getElem?
     intro i
     rw[dv]
     split
     ·rename_i hi;subst hi
      obtain⟨hlt,_⟩:=List.getElem?_eq_some_iff.1 e
      rw[aA hlt,e]
     ·rfl
    show aS hp (jr us hb l).1=aS (hp.set b (some k)) l
    rw[e2]
    exact pJ hB (fun c hc=>h c (dj _ hc)) hn.2 hv.2
   ·simp only[jr,aC hu] at hv ⊢
    exact D0 hv
theorem dD.app:∀{l m:List VC},dD (l++m)→dD l∧dD m
 |[],_,h=>⟨trivial,h⟩
 |_::_,_,h=>⟨⟨h.1,(dD.app h.2).1⟩,(dD.app h.2).2⟩
def xf(r:CR)(hb:Nat→Option aO)(x:fF×List Prop):Option (fF×List Prop):=match r.us with
 |[]=>some x
 |us=>if r.kC then some x else if kA (x.1.hw.map (·.1)) then some (⟨x.1.v,(jr us hb x.1.hw).1,x.1.fr,x.1.vc++(jr us hb x.1.hw).2⟩,x.2) else none
variable{hp:List (Option aO)}
theorem ME{r:CR}(hB:HB hb hp){x y:fF×List Prop}(h:xf r hb x=some y)(hv:dD y.1.vc):y.1.v=x.1.v∧y.1.fr=x.1.fr∧y.2=x.2∧aS hp y.1.hw=aS hp x.1.hw:=by
 unfold xf at h
 split at h
 ·grind
 ·split at h
  ·cases h;exact⟨rfl,rfl,rfl,rfl⟩
  ·split at h
   ·rename_i hc
    cases h
    exact⟨rfl,rfl,rfl,pJ hB (fun _ _=>rfl) (fZ hc) (dD.app hv).2⟩
   ·cases h
theorem PT{r:CR}{x y:fF×List Prop}(h:xf r hb x=some y):y.2=x.2:=by
 grind [xf]
theorem JP{r:CR}(hp:r.kC=true){x y:fF×List Prop}(h:xf r hb x=some y):y=x:=by
 grind [xf]
def oX(P:Program)(G:bN)(gl:Ctx)(d:Nat)(r:CR)(op:Op)(ev:Operand→AV)(hb:Nat→Option aO):Option (fF×List Prop):=
 match op with
 |
  .call c=>match c.callee with
  | .builtin _=>(qX P G d (.call c) ev hb).map fun e=>(e,[])
  |_=>Option.bind (pU P G gl r ev hb c) (xf r hb)
 |op=>(qX P G d op ev hb).map fun e=>(e,[])
def lkT:List (Nat×Ty)→Nat→Option Ty
 |[],_=>none
 |(t,ty)::l,x=>if Nat.beq t x then some ty else lkT l x
def JQ(hb:Nat→Option aO)(z:List (Nat×Ty))(ev:Operand→AV):Operand→AV
 |
  .tmp t=>match lkT z t with
  |
   some ty=>match view hb (ev (.tmp t)) false ty with
   |some (y,_)=>if(ev (.tmp t)).plain then y else .bot
   |none=>.bot
  |none=>ev (.tmp t)
 |x=>ev x
def kZ(hb:Nat→Option aO)(ev:Operand→AV):List (Nat×Ty)→List Nat
 |[]=>[]
 |
  (t,ty)::l=>(match view hb (ev (.tmp t)) false ty with
  |some (_,m)=>m
  |none=>[])++kZ hb ev l
def mw(ev:Operand→AV):List (Nat×Ty)→List Nat
 |[]=>[]
 |(t,_)::l=>(ev (.tmp t)).ids++mw ev l
def eI:List Nat→List (Nat×Option aO)
 |[]=>[]
 |b::l=>(b,none)::eI l
def MF:List (Nat×Ty)→List Nat
 |[]=>[]
 |(t,_)::l=>t::MF l
def Tn:List (Nat×Nat×Ty)→Nat→List (Nat×Ty)
 |[],_=>[]
 |(j,t,ty)::l,i=>if Nat.beq j i then(t,ty)::Tn l i else Tn l i
def eC(P:Program)(G:bN)(gl:Ctx)(ops:Array Oper)(r:CR)(z:List (Nat×Ty))(σ:St)(i:Nat):Option (aW×List VC×List Prop):=
 match ops[i]? with
 |none=>none
 |
  some o=>
  match guardOf ops σ.tm o with
  |none=>none
  |some false=>some (⟨(kY ops o).toList,[],[],o.dst,.fU .nil,[]⟩,[],[])
  |
   some true=>
   match z with
   |
    []=>(match oX P G gl (Tm o.dst) r o.op (bC gl σ.tm) (gx (tR o.op (bC gl σ.tm)++r.pb) σ.hp) with
    |none=>none
    |some (e,ob)=>some (⟨slotsOf o.op.operands.toList++(kY ops o).toList,tR o.op (bC gl σ.tm)++r.pb,e.fr,o.dst,e.v,e.hw⟩,e.vc,ob))
   |
    z=>(match oX P G gl (Tm o.dst) r o.op (JQ (gx (mw (bC gl σ.tm) z) σ.hp) z (bC gl σ.tm)) (gx (tR o.op (JQ (gx (mw (bC gl σ.tm) z) σ.hp) z (bC gl σ.tm))++r.pb) (aS σ.hp (eI (kZ (gx (mw (bC gl σ.tm) z) σ.hp) (bC gl σ.tm) z)))) with
    |none=>none
    |some (e,ob)=>some (⟨slotsOf o.op.operands.toList++MF z++(kY ops o).toList,mw (bC gl σ.tm) z++(tR o.op (JQ (gx (mw (bC gl σ.tm) z) σ.hp) z (bC gl σ.tm))++r.pb),e.fr,o.dst,e.v,eI (kZ (gx (mw (bC gl σ.tm) z) σ.hp) (bC gl σ.tm) z)++e.hw⟩,e.vc,ob))
variable{ops:Array Oper}
theorem fV{gl:Ctx}{a:Act}(h:bQ gl σ E a w){o:Oper}{c:Bool}(hc:guardOf ops σ.tm o=some c):Region.wanted o (yielded ops a.tmps)=c:=by
 unfold guardOf at hc
 unfold Region.wanted
 split at hc
 ·grind
 ·rename_i j want hg
  rw[hg]
  split at hc
  ·rename_i t ht
   have hy:∀v,a.tmps[t]? =some v→yielded ops a.tmps j=(match v with| .bool b=>some b|_=>none):=by
    grind [yielded]
   split at hc
   ·rename_i b hb
    cases hc
    have hlt:t<a.tmps.size:=by rw[h.len];grind
    have hr:=h.tm t _ hb a.tmps[t] (by grind)
    have hv:=RV.dY hr
    simp only
    rw[hy a.tmps[t] (by grind),hv]
    cases want<;>cases b<;>rfl
   ·rename_i hb
    cases hc
    have hlt:t<a.tmps.size:=by rw[h.len];grind
    obtain⟨vs,e,_⟩:=h.tm t _ hb a.tmps[t] (by grind)
    simp_all
   grind
  grind
variable{σ':St}{rt:List Nat}{rb:List Nat}
theorem iY{gl:Ctx}(ha:iW σ σ' rt rb){x:Operand}(hx:∀t∈MC x,t∈rt):bC gl σ'.tm x=bC gl σ.tm x:=by
 cases x with
 |tmp t=>simp only[bC];rw[ha.tm t (hx t (by simp[MC]))]
 |_=>rfl
theorem gy(ha:iW σ σ' rt rb){o:Oper}(hx:∀t∈(kY ops o).toList,t∈rt):guardOf ops σ'.tm o=guardOf ops σ.tm o:=by
 unfold guardOf
 unfold kY at hx
 split
 ·rfl
 ·rename_i j want hg
  rw[hg] at hx
  simp only at hx
  split
  ·rename_i t ht
   rw[ht] at hx
   rw[ha.tm t (hx t (by simp))]
  ·rfl
theorem k7{need:List Nat}(ha:iW σ σ' rt need):HB (gx need σ.hp) σ'.hp:=by
 intro b k hk
 unfold gx at hk
 split at hk
 ·rename_i hn
  have hm:b∈need:=by
   have key:∀l:List Nat,cq b l=true→b∈l:=by
    intro l
    induction l with
    |nil=>intro h;cases h
    |
     cons x l ih=>
     intro h
     simp only[cq,fK] at h
     rcases h with h|h<;>simp_all
   grind
  rw[ha.hp b hm]
  grind
 grind
variable{K:Act→World→Prop}{Q:Exit→Act→World→Prop}
theorem wI.wp{gl:Ctx}{a:Act}{o:Oper}{r:fF}(h:wI P gl σ E a w o r){x:AV}
 (hx:∀E' w' v,RV E' w' r.v v→RV E' w' x v) (hk:∀E' a' w',bQ gl (({σ with hp:=aS σ.hp r.hw}:St).put o.dst x) E' a' w'→Ext gl.md (bx σ.hp E) E w (bx (aS σ.hp r.hw) E') E' w'→K a' w'):o.wpIn (Wd gl) 0 P a w K Q:=
 h K Q (fun E' v w' h1 h2 h3=>hk E' _ w' (h1.put o.dst (hx E' w' v h2)) h3)
variable{ob:List Prop}
theorem DW{G:bN}(T:bA P G){gl:Ctx}{a:Act}(h:bQ gl σ E a w){o:Oper}{d:Nat}{x:CR}(am4:x.kC=false)(hB:HB hb σ.hp){r:fF}
 (hev:∀x∈o.op.operands.toList,RV E w (ev x) (a.eval x)) (hids:∀x∈o.op.operands.toList,∀b∈(ev x).ids,b∈σ.ids) (he:oX P G gl d x o.op ev hb=some (r,ob)) (hvc:dD r.vc) (hob:∀p∈ob,p) (hfr:∀b∈r.fr,σ.fresh b):wI P gl σ E a w o r:=by
 unfold oX at he
 split at he
 ·rename_i c hop
  split at he
  ·simp only[gW,iv] at he
   obtain⟨e,he,rfl,_⟩:=he
   exact(DU T h hB hev hids (by rw[hop];exact he) hvc hfr).to (by grind)
  ·simp only[tJ] at he
   obtain⟨⟨e,ob'⟩,he,hk⟩:=he
   obtain⟨k1,k2,k3,k4⟩:=ME hB hk hvc
   simp only at k1 k2 k3 k4
   subst k3
   have:=J0 T h hop hB am4 hev he hob (by grind)
   intro K Q hK
   refine this K Q ?_<;>grind
 ·simp only[gW,iv] at he
  obtain⟨e,he,rfl,_⟩:=he
  exact(DU T h hB hev hids he hvc hfr).to (MD he)
theorem nk:∀(l m:List (Nat×Option aO))(hp:List (Option aO)),aS hp (l++m)=aS (aS hp l) m
 |[],_,_=>rfl
 |(b,k)::l,m,hp=>by simp only[List.cons_append,aS];exact nk l m _
theorem dx:∀{l:List Nat}{hp:List (Option aO)}{b:Nat}{k:aO},(aS hp (eI l))[b]? =some (some k)→b∉l∧hp[b]? =some (some k)
 |[],hp,b,k,h=>⟨by simp,h⟩
 |
  c::l,hp,b,k,h=>by
  simp only[eI,aS] at h
  obtain⟨h1,h2⟩:=dx h
  grind
theorem bQ.zap{gl:Ctx}{a:Act}(h:bQ gl σ E a w){l:List Nat}(hl:∀b∈l,∃k,σ.hp[b]? =some (some k)):
 bQ gl {σ with hp:=aS σ.hp (eI l)} (E.cH l) a w∧Ext gl.md (bx σ.hp E) E w (bx (aS σ.hp (eI l)) (E.cH l)) (E.cH l) w:=by
 have hk:bE E w (E.cH l) w:=Env.db l
 have on:∀ids,E.on (E.cH l) ids:=fun ids b _=>⟨rfl,rfl,rfl⟩
 refine⟨⟨h.len,fun i x hi v hv=>RV.mono hk (on _) (h.tm i x hi v hv),⟨?_,?_,?_,?_,h.hw.gJ hk,fun b k g hb=>h.hw.uu b k g (dx hb).2⟩,RD.mono hk (fun _ _=>on _) h.df⟩,⟨rfl,Tp.r rfl rfl,rfl,dP _,fun _ _ _=>rfl,fun g hg=>Or.inl hg,?_,?_,fun _ _=>⟨rfl,rfl,rfl⟩⟩⟩
 ·intro b k hb
  exact RB.mono hk (on _) (fun _ _=>rfl) (fun _ _ h=>h) (h.hw.cQ b k (dx hb).2)
 ·intro b b' k k' g hb hb' h1 h2
  exact h.hw.ew b b' k k' g (dx hb).2 (dx hb').2 h1 h2
 ·intro b k g hb hg hs
  obtain⟨h1,h2⟩:=dx hb
  rcases hs with hs|⟨c,hc,e⟩
  ·exact h.hw.dC b k g h2 hg hs
  ·obtain⟨k',hk'⟩:=hl c hc
   have:=h.hw.ew c b k' k g hk' h2 (Or.inl e) hg
   grind
 ·rintro g (hs|⟨c,hc,e⟩)
  ·exact h.hw.slt g hs
  ·obtain⟨k',hk'⟩:=hl c hc
   exact bx.below h.hw ⟨c,k',hk',Or.inl e⟩
 ·rintro g (hs|⟨c,hc,e⟩)
  ·grind
  ·obtain⟨k',hk'⟩:=hl c hc
   exact Or.inr (Or.inl ⟨c,k',hk',Or.inl e⟩)
 ·rintro g ⟨b,k,hb,hg⟩
  exact Or.inl ⟨b,k,(dx hb).2,hg⟩
theorem pK:∀{z:List (Nat×Ty)}{b:Nat},b∈kZ hb ev z→∃k,hb b=some k
 |[],b,h=>by cases h
 |
  (t,ty)::l,b,h=>by
  simp only[kZ,jb] at h
  rcases h with h|h
  ·split at h
   ·rename_i y m hv;exact sU hv b h
   ·cases h
  ·exact pK h
variable{ty:Ty}
theorem DX{t:Nat}{y:AV}{m:List Nat}(hv:view hb (ev (.tmp t)) false ty=some (y,m)):∀{z:List (Nat×Ty)},lkT z t=some ty→∀b∈m,b∈kZ hb ev z
 |[],h,b,hbm=>by cases h
 |
  (t',ty')::l,h,b,hbm=>by
  simp only[lkT] at h
  simp only[kZ,jb]
  split at h
  ·rename_i e
   have e:=bM e
   subst e;cases h
   left;rw[hv];exact hbm
  ·exact Or.inr (DX hv h b hbm)
theorem MH{gl:Ctx}{a:Act}(h:bQ gl σ E a w)(hB:HB hb σ.hp){z:List (Nat×Ty)}{x:Operand}(hx:RV E w (ev x) (a.eval x)):RV (E.cH (kZ hb ev z)) w (JQ hb z ev x) (a.eval x):=by
 have hk:bE E w (E.cH (kZ hb ev z)) w:=Env.db _
 have triv:RV (E.cH (kZ hb ev z)) w (ev x) (a.eval x):=RV.mono hk (fun b _=>⟨rfl,rfl,rfl⟩) hx
 unfold JQ
 split
 ·rename_i t
  split
  ·rename_i ty hty
   split
   ·rename_i y m hv
    split
    ·rename_i hp
     have h1:=D7 h.hw hB hv (RV.jq hp hx)
     refine RV.eS (bZ.mono (E:=E.cH m) (Env.eR (fun b hb'=>DX hv hty b hb')) (fun b _=>⟨rfl,rfl,rfl⟩) h1)
    trivial
   trivial
  grind
 grind
theorem PU{z:List (Nat×Ty)}{x:Operand}:∀b∈(JQ hb z ev x).ids,b∈(ev x).ids:=by
 unfold JQ
 intro b hb'
 split at hb'
 ·split at hb'
  ·split at hb'
   ·rename_i y m hv
    split at hb'
    ·rw[sX hv] at hb';cases hb'
    trivial
   trivial
  grind
 grind
theorem JR{l:List Nat}{d:Nat}(h:σ.fresh d):({σ with hp:=aS σ.hp (eI l)}:St).fresh d:=by
 refine⟨?_,fun k hk=>h.2.1 k (dx hk).2,h.2.2⟩
 have h1:=lv.1 h.1
 exact lv.2 ⟨h1.1,h1.2.1,fun i k hk=>h1.2.2 i k (dx hk).2⟩
theorem k8{G:bN}(T:bA P G){gl:Ctx}{r:CR}(am4:r.kC=false){z:List (Nat×Ty)}{i:Nat}{f:aW}{vc:List VC}(h:eC P G gl ops r z σ i=some (f,vc,ob))(hvc:dD vc)(hob:∀p∈ob,p):px P gl ops i f σ:=by
 unfold eC at h
 split at h
 ·cases h
 ·rename_i o ho
  split at h
  ·cases h
  ·rename_i hc
   cases h
   intro σ' ha hfr E a w hg K Q hK
   unfold wpOpIn
   simp only[ho]
   have hw:=fV hg (ops:=ops) (o:=o) (c:=false) (by grind [gy])
   rw[hw]
   simp only[eM,dB]
   exact⟨fun _ _=>trivial,hK E _ w (hg.put o.dst ⟨#[],rfl,rfl⟩) (by rw[ig];exact Ext.refl _ _ _)⟩
  ·rename_i hc
   split at h
   ·split at h
    ·cases h
    ·rename_i e ob he
     cases h
     intro σ' ha hfr E a w hg K Q hK
     unfold wpOpIn
     simp only[ho]
     have hw:=fV hg (ops:=ops) (o:=o) (c:=true) (by grind [gy])
     rw[hw]
     simp only[cj]
     have ex:∀u,u∈o.op.operands.toList→bC gl σ'.tm u=bC gl σ.tm u:=fun u hu=>iY ha (fun t ht=>by grind [slotsOf])
     have hs:wI P gl σ' E a w o e:=by
      refine DW T hg am4 (k7 ha) (ev:=bC gl σ.tm) ?_ ?_ he hvc hob hfr
      ·grind [gr]
      grind [yU]
     exact hs.wp (x:=e.v) (fun _ _ _ h=>h) (fun E' a' w' h1 h2=>hK E' a' w' h1 (by rw[ig];exact h2))
   ·split at h
    ·cases h
    ·rename_i e ob he
     cases h
     intro σ' ha hfr E a w hg K Q hK
     unfold wpOpIn
     simp only[ho]
     have hw:=fV hg (ops:=ops) (o:=o) (c:=true) (by grind [gy])
     rw[hw]
     simp only[cj]
     have ex:∀u,u∈o.op.operands.toList→bC gl σ'.tm u=bC gl σ.tm u:=fun u hu=>iY ha (fun t ht=>by grind [slotsOf])
     have ha1:iW σ σ' [] (mw (bC gl σ.tm) z):=⟨ha.tl,ha.hl,fun _ h=>(List.not_mem_nil h).elim,fun b hb=>ha.hp b (List.mem_append.2 (Or.inl hb))⟩
     have hB1:=k7 ha1
     generalize hl:kZ (gx (mw (bC gl σ.tm) z) σ.hp) (bC gl σ.tm) z=l at he hK
     have hlk:∀b∈l,∃k,σ'.hp[b]? =some (some k):=by
      intro b hb
      rw[←hl] at hb
      obtain⟨k,hk⟩:=pK hb
      exact⟨k,hB1 b k hk⟩
     obtain⟨g1,x1⟩:=hg.zap hlk
     have ha2:iW {σ with hp:=aS σ.hp (eI l)} {σ' with hp:=aS σ'.hp (eI l)} [] (tR o.op (JQ (gx (mw (bC gl σ.tm) z) σ.hp) z (bC gl σ.tm))++r.pb):=
      ⟨ha.tl,by simp only[kQ];exact ha.hl,fun _ h=>(List.not_mem_nil h).elim,fun b hb=>iF ha.hl (ha.hp b (List.mem_append.2 (Or.inr hb)))⟩
     have hs:wI P gl {σ' with hp:=aS σ'.hp (eI l)} (E.cH l) a w o e:=by
      refine DW T g1 am4 (k7 ha2) (ev:=JQ (gx (mw (bC gl σ.tm) z) σ.hp) z (bC gl σ.tm)) ?_ ?_ he hvc hob (fun b hb=>JR (hfr b hb))
      ·grind [gr,MH]
      ·intro x hx b hb
       have hb:=PU b hb
       rw[←ex x hx] at hb
       exact yU (σ:={σ' with hp:=aS σ'.hp (eI l)}) b hb
     refine hs.wp (x:=e.v) (fun _ _ _ h=>h) (fun E' a' w' h1 h2=>hK E' a' w' ?_ ?_)
     ·grind [nk,St.app]
     ·rw[ig];simp only[nk];exact x1.trans h2
def DY(P:Program)(gl:Ctx)(ops:Array Oper)(i:Nat)(f:aW)(σ:St):Prop:=
 ∀σ',iW σ σ' f.rt f.rb→∀E a w,bQ gl σ' E a w→∀(K:Act→World→Prop)(Q:Exit→Act→World→Prop),
  (∀E' u w',bQ gl {σ' with hp:=aS σ'.hp f.hw} E' a w'→RV E' w' f.v u→Ext gl.md (bx σ'.hp E) E w (bx (aS σ'.hp f.hw) E') E' w'→Q (.panic [{v:=u,recovered:=false}]) a w')→wpOpIn (Wd gl) 0 P ops Q i K a w
theorem zx{G:bN}(T:bA P G){gl:Ctx}{a:Act}(h:bQ gl σ E a w){o:Oper}{d:Nat}{x:CR}(am4:x.kC=true)(hcl:lK o.op=true)(hB:HB hb σ.hp){r:fF}
 (hev:∀x∈o.op.operands.toList,RV E w (ev x) (a.eval x)) (he:oX P G gl d x o.op ev hb=some (r,ob)) (hob:∀p∈ob,p) (hfr:∀b∈r.fr,σ.fresh b)  
 (hQ:∀E' v w',bQ gl {σ with hp:=aS σ.hp r.hw} E' a w'→RV E' w' r.v v→Ext gl.md (bx σ.hp E) E w (bx (aS σ.hp r.hw) E') E' w'→Q (.panic [{v:=v,recovered:=false}]) a w'):o.wpIn (Wd gl) 0 P a w K Q:=by
 unfold oX at he
 split at he
 ·rename_i c hop
  split at he
  ·rename_i b hb'
   rw[hop] at hcl
   obtain⟨ca,asz,ts⟩:=c
   grind [lK]
  ·simp only[tJ] at he
   grind [JP,xD]
 simp_all[lK]
theorem F1{G:bN}(T:bA P G){gl:Ctx}{r:CR}(am4:r.kC=true){z:List (Nat×Ty)}{i:Nat}{f:aW}{vc:List VC}{o:Oper}(ho:ops[i]? =some o)(hgd:guardOf ops σ.tm o=some true)(hcl:lK o.op=true)
 (h:eC P G gl ops r z σ i=some (f,vc,ob)) (hob:∀p∈ob,p) (hnf:f.fr= []):DY P gl ops i f σ:=by
 unfold eC at h
 simp only[ho,hgd] at h
 split at h
 ·split at h
  ·cases h
  ·rename_i e ob he
   cases h
   simp only at hnf
   intro σ' ha E a w hg K Q hQ
   unfold wpOpIn
   simp only[ho]
   have hw:=fV hg (ops:=ops) (o:=o) (c:=true) (by grind [gy])
   rw[hw]
   simp only[cj]
   have ex:∀u,u∈o.op.operands.toList→bC gl σ'.tm u=bC gl σ.tm u:=fun u hu=>iY ha (fun t ht=>by grind [slotsOf])
   refine zx T hg am4 hcl (k7 ha) (ev:=bC gl σ.tm) ?_ he hob (fun b hb=>by grind) hQ
   grind [gr]
 ·split at h
  ·cases h
  ·rename_i e ob he
   cases h
   simp only at hnf
   intro σ' ha E a w hg K Q hQ
   unfold wpOpIn
   simp only[ho]
   have hw:=fV hg (ops:=ops) (o:=o) (c:=true) (by grind [gy])
   rw[hw]
   simp only[cj]
   have ex:∀u,u∈o.op.operands.toList→bC gl σ'.tm u=bC gl σ.tm u:=fun u hu=>iY ha (fun t ht=>by grind [slotsOf])
   have ha1:iW σ σ' [] (mw (bC gl σ.tm) z):=⟨ha.tl,ha.hl,fun _ h=>(List.not_mem_nil h).elim,fun b hb=>ha.hp b (List.mem_append.2 (Or.inl hb))⟩
   have hB1:=k7 ha1
   generalize hl:kZ (gx (mw (bC gl σ.tm) z) σ.hp) (bC gl σ.tm) z=l at he hQ
   have hlk:∀b∈l,∃k,σ'.hp[b]? =some (some k):=by
    intro b hb
    rw[←hl] at hb
    obtain⟨k,hk⟩:=pK hb
    exact⟨k,hB1 b k hk⟩
   obtain⟨g1,x1⟩:=hg.zap hlk
   have ha2:iW {σ with hp:=aS σ.hp (eI l)} {σ' with hp:=aS σ'.hp (eI l)} [] (tR o.op (JQ (gx (mw (bC gl σ.tm) z) σ.hp) z (bC gl σ.tm))++r.pb):=
    ⟨ha.tl,by simp only[kQ];exact ha.hl,fun _ h=>(List.not_mem_nil h).elim,fun b hb=>iF ha.hl (ha.hp b (List.mem_append.2 (Or.inr hb)))⟩
   refine zx T g1 am4 hcl (k7 ha2) (ev:=JQ (gx (mw (bC gl σ.tm) z) σ.hp) z (bC gl σ.tm)) ?_ he hob (fun b hb=>by grind) ?_
   ·grind [gr,MH]
   ·intro E' u w' q1 q2 q3
    refine hQ E' u w' ?_ q2 ?_
    ·simp only[nk] at q1 ⊢;exact q1
    ·simp only[nk];exact x1.trans q3
def xg(ops:Array Oper)(i:Nat):Bool:=
 match ops[i]? with
 |some o=>lK o.op
 |none=>false
def MJ:List Oper→Nat→Bool
 |[],_=>false
 |o::l,i=>(match o.guard with|some (j,_)=>Nat.beq i j|none=>false)||MJ l i
section
variable{P:Program} {b:Frame} {a:Act} {k:List Item} {cs:List Frame} {w:World}
theorem gS{c:Code}:step P (lone (b.atR a (.code (.scope c)::k)) cs w)= .next (lone (b.atR a (.code c::.inScope c::k)) cs w):=
 step_lone_go (by trivial)
theorem ym{c:Code}:step P (lone (b.atR a (.inScope c::k)) cs w)= .next (lone (b.atR a k) cs w):=
 step_lone_go (by trivial)
def noGoto(Q:Exit→Act→World→Prop):Exit→Act→World→Prop
 | .goto _,_,_=>False
 |e,a,w=>Q e a w
theorem F2{F:Fence}{n:Nat}{Q:Exit→Act→World→Prop}{c:Code}(h:c.wpIn F n P (noGoto Q) a w):(Code.scope c).wpIn F n P Q a w:=by
 intro b k cs hro hb hr
 have h0:(lone (b.atR a (.code (.scope c)::k)) cs w).fenced P F:=fenced_calm hb hr rfl
 obtain⟨e,a₁,w₁,hq,harr⟩:=h b (.inScope c::k) cs hro hb hr
 cases e with
 |normal=>exact⟨.normal,a₁,w₁,hq,.head h0 gS (StepsIn.trans harr (.one (fenced_calm hb hr rfl) ym))⟩
 |
  exit id=>
  have hx:exitTo id (.inScope c::k)=exitTo id k:=by trivial
  exact⟨.exit id,a₁,w₁,hq,fun k' hk=>.head h0 gS (harr.1 k' (by grind)),
   fun hr' hk=>let⟨k₁,h1,h2⟩:=harr.2 hr' (by grind);⟨k₁,h1,.head h0 gS h2⟩⟩
 |goto l=>trivial
 |ret=>exact⟨_,a₁,w₁,hq,.of_steps (.one h0 gS) harr⟩
 |panic ch=>exact⟨_,a₁,w₁,hq,.of_steps (.one h0 gS) harr⟩
 |outgrown=>exact⟨_,a₁,w₁,hq,.of_steps (.one h0 gS) harr⟩
end
inductive fQ where
 |normal
 |exit (id:Nat)
 |ret
 |panic (v:AV)
def ExR(E:Env)(w:World):fQ→Exit→Prop
 | .normal,.normal=>True
 | .exit i,.exit j=>i=j
 | .ret,.ret=>True
 | .panic x,.panic chain=>∃u,chain= [{v:=u,recovered:=false}]∧bZ E w x u
 |_,_=>False
def qY(gl:Ctx)(Q:fQ→St→Prop)(σ:St)(E:Env)(w:World)(ex:Exit)(a':Act)(w':World):Prop:=
 ∃x σ' E',ExR E' w' x ex∧Q x σ'∧bQ gl σ' E' a' w'∧Ext gl.md (bx σ.hp E) E w (bx σ'.hp E') E' w'
def cJ(P:Program)(gl:Ctx)(c:Code)(σ:St)(Q:fQ→St→Prop):Prop:=
 ∀E a w,bQ gl σ E a w→c.wpIn (Wd gl) 0 P (qY gl Q σ E w) a w
section
variable{P:Program} {gl:Ctx} {σ:St} {Q:fQ→St→Prop}
theorem cJ.mono{c:Code}{Q':fQ→St→Prop}(h:cJ P gl c σ Q)(hq:∀x σ',Q x σ'→Q' x σ'):cJ P gl c σ Q':=
 fun E a w hg=>wpIn_mono (h E a w hg) (fun _ _ _ ⟨x,σ',E',h1,h2,h3⟩=>⟨x,σ',E',h1,hq _ _ h2,h3⟩)
theorem cJ.skip(h:Q .normal σ):cJ P gl .skip σ Q:=fun E _a _w hg=>wpIn_skip ⟨.normal,σ,E,trivial,h,hg,Ext.refl _ _ _⟩
theorem cJ.label{l:Nat}(h:Q .normal σ):cJ P gl (.label l) σ Q:=fun E _a _w hg=>wpIn_label ⟨.normal,σ,E,trivial,h,hg,Ext.refl _ _ _⟩
theorem cJ.scope{c:Code}(h:cJ P gl c σ Q):cJ P gl (.scope c) σ Q:=fun E a w hg=>F2 (wpIn_mono (h E a w hg) fun ex a' w' hp=>by
 cases ex with
 |goto l=>obtain⟨x,_,_,h1,_⟩:=hp;cases x<;>exact h1.elim
 |_=>exact hp)
theorem cJ.exit{i:Nat}(h:Q (.exit i) σ):cJ P gl (.exit i) σ Q:=fun E _a _w hg=>wpIn_exit ⟨.exit i,σ,E,rfl,h,hg,Ext.refl _ _ _⟩
theorem cJ.ret(h:Q .ret σ):cJ P gl .ret σ Q:=fun E _a _w hg=>wpIn_ret ⟨.ret,σ,E,trivial,h,hg,Ext.refl _ _ _⟩
def Yg(P:Program)(gl:Ctx)(y:Code)(Q:fQ→St→Prop):fQ→St→Prop
 | .normal,σ=>cJ P gl y σ Q
 |x,σ=>Q x σ
theorem cJ.seq{x y:Code}(h:cJ P gl x σ (Yg P gl y Q)):cJ P gl (.seq x y) σ Q:=by
 intro E a w hg
 refine wpIn_seq (wpIn_mono (h E a w hg) ?_)
 rintro ex a1 w1 ⟨x1,σ1,E1,h1,h2,h3,h4⟩
 cases ex with
 |
  normal=>
  cases x1 with
  |
   normal=>
   refine wpIn_mono (h2 E1 a1 w1 h3) ?_
   rintro e2 a2 w2 ⟨x2,σ2,E2,k1,k2,k3,k4⟩
   exact⟨x2,σ2,E2,k1,k2,k3,h4.trans k4⟩
  |_=>trivial
 |
  _=>
  cases x1 with
  |normal=>trivial
  |_=>exact⟨_,σ1,E1,h1,h2,h3,h4⟩
theorem cJ.cond{c:Operand}{x y:Code}{b:Bool}(hc:bC gl σ.tm c= .val .bool b)(ht:b=true→cJ P gl x σ Q)(hf:b=false→cJ P gl y σ Q):cJ P gl (.cond c x y) σ Q:=by
 intro E a w hg
 have hv:=gr hg c
 rw[hc] at hv
 exact wpIn_cond_split (RV.dY hv) (fun h=>ht h E a w hg) (fun h=>hf h E a w hg)
def A2(id:Nat)(Q:fQ→St→Prop):fQ→St→Prop
 | .exit i,σ=>if i=id then Q .normal σ else Q (.exit i) σ
 |x,σ=>Q x σ
theorem cJ.block{id:Nat}{c:Code}(h:cJ P gl c σ (A2 id Q)):cJ P gl (.block id c) σ Q:=by
 intro E a w hg
 refine wpIn_block (wpIn_mono (h E a w hg) ?_)
 rintro ex a1 w1 ⟨x1,σ1,E1,h1,h2,h3,h4⟩
 cases ex with
 |
  exit i=>
  cases x1 with
  |
   exit j=>
   have e:j=i:=h1
   subst e
   simp only[A2] at h2
   simp only[Exit.inBlock]
   split
   ·rename_i e;rw[aA e] at h2;exact⟨.normal,σ1,E1,trivial,h2,h3,h4⟩
   ·rename_i e;rw[aC e] at h2;exact⟨.exit j,σ1,E1,rfl,h2,h3,h4⟩
  |_=>trivial
 |_=>cases x1<;>first|exact h1.elim|exact⟨_,σ1,E1,h1,h2,h3,h4⟩
def Yh(R:Nat→St→Prop)(n:Nat)(Q:fQ→St→Prop):fQ→St→Prop
 | .normal,σ=>∃m,m<n∧R m σ
 |x,σ=>Q x σ
theorem cJ.loop{c:Code}(R:Nat→St→Prop)(hR:∀n σ,R n σ→cJ P gl c σ (Yh R n Q)){n:Nat}(h0:R n σ):cJ P gl (.loop c) σ Q:=by
 intro E0 a0 w0 hg0 b k cs hro hb hr0
 have key:∀n σ1 E1 a1 w1,R n σ1→bQ gl σ1 E1 a1 w1→Ext gl.md (bx σ.hp E0) E0 w0 (bx σ1.hp E1) E1 w1→
  ∃e a' w',qY gl Q σ E0 w0 e a' w'∧ArrivesIn (Machine.fenced P (Wd gl)) P (lone (b.atR a1 (.code c::.inLoop c::k)) cs w1) b k cs e a' w':=by
  intro n
  induction n using Nat.strongRecOn with
  |
   _ n ih=>
   intro σ1 E1 a1 w1 hr hg hx
   obtain⟨e,a2,w2,⟨x,σ2,E2,h1,h2,h3,h4⟩,harr⟩:=hR n σ1 hr E1 a1 w1 hg b (.inLoop c::k) cs hro hb hr0
   cases e with
   |
    normal=>
    cases x with
    |
     normal=>
     obtain⟨m,hm,hr2⟩:=h2
     obtain⟨e₂,a₂,w₂,hq₂,harr₂⟩:=ih m hm σ2 E2 a2 w2 hr2 h3 (hx.trans h4)
     exact⟨e₂,a₂,w₂,hq₂,.of_steps (StepsIn.trans harr (.one (fenced_calm hb hr0 rfl) stepR_inLoop)) harr₂⟩
    |_=>trivial
   |exit id=>exact⟨_,a2,w2,⟨x,σ2,E2,h1,by cases x<;>first|trivial|exact h2,h3,hx.trans h4⟩,.pass (x:=.inLoop c) rfl (fun _ _=>.inl (by simp)) harr⟩
   |goto l=>cases x<;>exact h1.elim
   |ret=>exact⟨_,a2,w2,⟨x,σ2,E2,h1,by cases x<;>first|trivial|exact h2,h3,hx.trans h4⟩,.pass (x:=.inLoop c) rfl (fun _ _=>.inl (by simp)) harr⟩
   |panic ch=>exact⟨_,a2,w2,⟨x,σ2,E2,h1,by cases x<;>first|trivial|exact h2,h3,hx.trans h4⟩,.pass (x:=.inLoop c) rfl (fun _ _=>.inl (by simp)) harr⟩
   |outgrown=>cases x<;>exact h1.elim
 obtain⟨e,a',w',hq,harr⟩:=key n σ E0 a0 w0 h0 hg0 (Ext.refl _ _ _)
 exact⟨e,a',w',hq,.of_steps (.one (fenced_calm hb hr0 rfl) stepR_loop) harr⟩
def lL(G:bN)(σ:St):List ResultVar→Option (List AV)
 |[]=>some []
 |
  .tmp t::l=>match σ.tm[t]?,lL G σ l with
  |some x,some xs=>if x.plain then some (x::xs) else none
  |_,_=>none
 |
  .cell t ty::l=>match σ.tm[t]?,lL G σ l with
  |
   some x,some xs=>match wq G (fun b=>(σ.hp[b]?).join) ty x with
   |some y=>if y.plain then some (y::xs) else none
   |none=>none
  |_,_=>none
def AV.ofList:List AV→AV
 |[]=>.nil
 |x::l=>.cons x (AV.ofList l)
def js(G:bN)(rs:List ResultVar)(σ:St):Option AV:=
 match lL G σ rs with
 |some [x]=>some x
 |some l=>some (.fU (AV.ofList l))
 |none=>none
def prune:List (Option aO)→List Bool→List (Option aO)
 |x::l,true::m=>x::prune l m
 |_::l,false::m=>none::prune l m
 |_,[]=>[]
 |[],_=>[]
theorem jB{b:Nat}{k:aO}:∀{l:List (Option aO)}{m:List Bool},(prune l m)[b]? =some (some k)→l[b]? =some (some k):=by
 intro l
 induction l generalizing b with
 |nil=>intro m h;cases m<;>simp[prune] at h
 |
  cons x l ih=>
  intro m h
  cases m with
  |nil=>trivial
  |
   cons y m=>
   cases b with
   |zero=>cases y<;>simp[prune] at h;grind
   |succ b=>cases y<;>simp[prune] at h<;>simpa using ih h
theorem HW.prune{E:Env}{w:World}{hp:List (Option aO)}(h:HW gl E w hp)(m:List Bool):HW gl E w (Ax.prune hp m) where
 cQ:=fun b k hb=>h.cQ b k (jB hb)
 ew:=fun b b' k k' g h1 h2=>h.ew b b' k k' g (jB h1) (jB h2)
 dC:=fun b k g h1=>h.dC b k g (jB h1)
 uu:=fun b k g h1=>h.uu b k g (jB h1)
 slt:=h.slt
 gl:=h.gl
def DZ(tmps:Array Value):ResultVar→Sem Value
 | .tmp t=>pure (tmps.getD t undef)
 | .cell c t=>do loadVar t (←asAddr (tmps.getD c undef))
theorem xh(fn:Func)(tmps:Array Value):results fn tmps=(do
 let vs ←fn.results.mapM (DZ tmps)
 pure (if h:vs.size=1 then vs[0] else .tuple vs)):=by
 trivial
theorem pL{G:bN}(T:bA P G){E:Env}{a:Act}{w:World}(hg:bQ gl σ E a w):∀{rs:List ResultVar}{xs:List AV},lL G σ rs=some xs→
 ∃vs:List Value,(rs.mapM (DZ a.tmps)).run P w= .ok vs w∧RT E w (AV.ofList xs) vs∧vs.length=xs.length
 |[],xs,h=>by cases h;exact⟨[],by simp,rfl,rfl⟩
 |
  .tmp t::l,xs,h=>by
  unfold lL at h
  split at h
  ·rename_i x xs' hx hl
   split at h
   ·rename_i hp
    cases h
    obtain⟨vs,h1,h2,h3⟩:=pL T hg hl
    have hlt:t<a.tmps.size:=by rw[hg.len];exact(List.getElem?_eq_some_iff.1 hx).1
    have hv:=hg.tm t _ hx a.tmps[t] (by simp[hlt])
    refine⟨a.tmps[t]::vs,?_,⟨RV.jq hp hv,h2⟩,by simp[h3]⟩
    simp only[List.mapM_cons,Sem.run_bind,DZ,Sem.run_pure,Result.andThen_ok,h1]
    simp[hlt]
   ·cases h
  ·cases h
 |
  .cell t ty::l,xs,h=>by
  unfold lL at h
  split at h
  ·rename_i x xs' hx hl
   split at h
   ·rename_i y hy
    split at h
    ·rename_i hp
     cases h
     obtain⟨vs,h1,h2,h3⟩:=pL T hg hl
     have hlt:t<a.tmps.size:=by rw[hg.len];exact(List.getElem?_eq_some_iff.1 hx).1
     have hv:=hg.tm t _ hx a.tmps[t] (by simp[hlt])
     have hB:HB (fun b=>(σ.hp[b]?).join) σ.hp:=by
      intro b k hk
      cases hh:σ.hp[b]? with
      |none=>simp[hh] at hk
      |some z=>simp[hh] at hk;rw[hk]
     obtain⟨u,h4,h5⟩:=sA T hg.hw hB hv hy
     have h4':(do loadVar ty (←asAddr (a.tmps.getD t undef)):Sem Value).run P w= .ok u w:=by
      have e:a.tmps.getD t undef=a.tmps[t]:=by simp[hlt]
      rw[e]
      simp only[Instr.loadAt,Sem.run_bind] at h4 ⊢
      cases hq:a.tmps[t] with
      |
       pointer p=>
       cases p with
       |some ad=>rw[hq] at h4;simpa[Instr.sureAddr,asAddr] using h4
       |none=>rw[hq] at h4;simp[Instr.sureAddr] at h4
      |_=>rw[hq] at h4;simp[Instr.sureAddr] at h4
     refine⟨u::vs,?_,⟨RV.jq hp h5,h2⟩,by simp[h3]⟩
     simp only[List.mapM_cons,Sem.run_bind,DZ]
     simp only[Sem.run_bind] at h4'
     rw[h4']
     simp only[Result.andThen_ok,h1,Sem.run_pure]
    ·cases h
   ·cases h
  ·cases h
end
theorem qZ{G:bN}(T:bA P G){gl:Ctx}{a:Act}(hg:bQ gl σ E a w){fn:Func}{x:AV}(h:js G fn.results.toList σ=some x):∃v,(results fn a.tmps).run P w= .ok v w∧RV E w x v:=by
 have key:∀xs,lL G σ fn.results.toList=some xs→∃vs:Array Value,(fn.results.mapM (DZ a.tmps)).run P w= .ok vs w∧RT E w (AV.ofList xs) vs.toList∧vs.toList.length=xs.length:=by
  intro xs hx
  obtain⟨vs,h1,h2,h3⟩:=pL T hg hx
  simp_all[Array.mapM_eq_mapM_toList]
 unfold js at h
 split at h
 ·rename_i y hy
  cases h
  obtain⟨vs,h1,h2,h3⟩:=key _ hy
  obtain⟨l⟩:=vs
  cases l with
  |nil=>grind
  |
   cons v l=>
   cases l with
   |cons _ _=>grind
   |
    nil=>
    refine⟨v,?_,RV.eS h2.1⟩
    simp_all[xh]
 ·rename_i xs hne hxs
  cases h
  obtain⟨vs,h1,h2,h3⟩:=key _ hxs
  refine⟨.tuple vs,?_,⟨vs,rfl,h2⟩⟩
  rw[xh]
  simp only[Sem.run_bind]
  rw[h1]
  have:¬vs.size=1:=by
   intro e
   rw[pv,e] at h3
   match xs,h3 with
   |[y],_=>grind
  simp_all
 grind
def Wk(gl:Ctx)(σ σ':St):Prop:=
 ∀E a w,bQ gl σ E a w→∃E',bQ gl σ' E' a w∧Ext gl.md (bx σ.hp E) E w (bx σ'.hp E') E' w
theorem Wk.refl(gl:Ctx)(σ:St):Wk gl σ σ:=fun E _ _ h=>⟨E,h,Ext.refl _ _ _⟩
variable{σ1:St}
theorem Wk.trans{gl:Ctx}{σ2:St}(h:Wk gl σ σ1)(k:Wk gl σ1 σ2):Wk gl σ σ2:=fun E a w hg=>by
 obtain⟨E1,g1,x1⟩:=h E a w hg
 obtain⟨E2,g2,x2⟩:=k E1 a w g1
 exact⟨E2,g2,x1.trans x2⟩
def ud(ts:List Nat):Nat→List AV→List AV
 |_,[]=>[]
 |i,x::l=>(if cq i ts then x else .bot)::ud ts (i+1) l
def zz(bs:List Nat):Nat→List (Option aO)→List (Option aO)
 |_,[]=>[]
 |i,x::l=>(if cq i bs then x else none)::zz bs (i+1) l
variable{ts:List Nat}
theorem zA:∀{l:List AV}{i j:Nat}{x:AV},(ud ts i l)[j]? =some x→x= .bot∨l[j]? =some x
 |[],i,j,x,h=>by trivial
 |
  y::l,i,0,x,h=>by
  grind [ud]
 |
  y::l,i,j+1,x,h=>by
  simp only[ud,we] at h
  simpa using zA h
theorem zB{ts:List Nat}:∀{l:List AV}{i:Nat},(ud ts i l).length=l.length
 |[],_=>rfl
 |_::l,i=>by simp[ud,zB (l:=l)]
theorem sN{bs:List Nat}{k:aO}:∀{l:List (Option aO)}{i j:Nat},(zz bs i l)[j]? =some (some k)→l[j]? =some (some k)
 |[],i,j,h=>by trivial
 |
  y::l,i,0,h=>by
  grind [zz]
 |
  y::l,i,j+1,h=>by
  simp only[zz,we] at h
  simpa using sN h
theorem HW.less{gl:Ctx}{hp':List (Option aO)}(h:HW gl E w hp)(hs:∀(b:Nat)(k:aO),hp'[b]? =some (some k)→hp[b]? =some (some k)):HW gl E w hp' where
 cQ:=fun b k hb=>h.cQ b k (hs b k hb)
 ew:=fun b b' k k' g h1 h2=>h.ew b b' k k' g (hs _ _ h1) (hs _ _ h2)
 dC:=fun b k g h1=>h.dC b k g (hs _ _ h1)
 uu:=fun b k g h1=>h.uu b k g (hs _ _ h1)
 slt:=h.slt
 gl:=h.gl
theorem Wk.D0(gl:Ctx)(σ:St)(ts bs:List Nat):Wk gl σ ⟨ud ts 0 σ.tm,zz bs 0 σ.hp,σ.df⟩:=by
 intro E a w h
 refine⟨E,⟨by rw[zB];exact h.len,?_,h.hw.less (fun b k hb=>sN hb),h.df⟩,{Ext.refl (bx σ.hp E) E w with own:=?_ }⟩
 ·intro i x hx v hv
  rcases zA hx with e|e
  ·subst e;trivial
  ·exact h.tm i x e v hv
 ·rintro g ⟨b,k,hb,hg⟩
  exact Or.inl ⟨b,k,sN hb,hg⟩
theorem Wk.MK{gl:Ctx}{s:Nat}{t:Ty}{x:AV}{y:t.den}(hx:σ.tm[s]? =some x)(hy:x.bB t=some y):Wk gl σ {σ with tm:=σ.tm.set s (.val t y)}:=by
 intro E a w h
 refine⟨E,⟨by simp[h.len],?_,h.hw,h.df⟩,Ext.refl _ _ _⟩
 intro i z hz v hv
 rw[dv] at hz
 split at hz
 ·rename_i e;subst e
  split at hz
  ·cases hz
   have hr:=h.tm s x hx v hv
   have hp:x.plain=true:=by cases x<;>first|rfl|(cases t<;>simp[AV.bB] at hy)
   exact RV.eS (bZ.bB hy (RV.jq hp hr))
  ·cases hz
 ·exact h.tm i z hz v hv
theorem Wk.F3{gl:Ctx}{b:Nat}{t:Ty}{v:AV}{y:t.den}(hb:σ.hp[b]? =some (some (.var t v)))(hy:v.bB t=some y):Wk gl σ {σ with hp:=σ.hp.set b (some (.var t (.val t y)))}:=by
 intro E a w h
 have hk:=h.hw.cQ b _ hb
 obtain⟨h1,h2,g,c,e,h3,h4,h5⟩:=hk
 have hw:=h.hw.write (w':=w) (k':=.var t (.val t y)) hb rfl (fun _ _=>rfl) ⟨h1,Ty.cV t,g,c,e,h3,h4,RC.bB hy h5⟩
 refine⟨E,⟨h.len,h.tm,hw,h.df⟩,{Ext.refl (bx σ.hp E) E w with own:=?_ }⟩
 grind [bx.set]
variable{bs:Nat}
theorem Wk.adv{gl:Ctx}{b:Nat}{e:TypeId}{t:Ty}{xs:List t.den}{i:Nat}{v:AV}{y:t.den}(hb:σ.hp[b]? =some (some (.cI e bs t xs i v)))(hy:v.bB t=some y):Wk gl σ {σ with hp:=σ.hp.set b (some (.cI e bs t xs i (.val t y)))}:=by
 intro E a w h
 obtain⟨h1,h2,h3,h4,h5,h6,g,cap,c,q1,q2,q3,q4,q5,q6,q7,q8,q9⟩:=h.hw.cQ b _ hb
 have hw:=h.hw.write (w':=w) (k':=.cI e bs t xs i (.val t y)) hb rfl (fun _ _=>rfl) ⟨h1,h2,h3,h4,h5,Ty.cV t,g,cap,c,q1,q2,q3,q4,q5,q6,q7,RC.bB hy q8,q9⟩
 refine⟨E,⟨h.len,h.tm,hw,h.df⟩,{Ext.refl (bx σ.hp E) E w with own:=?_ }⟩
 grind [bx.set]
theorem Wk.mcl{gl:Ctx}{b:Nat}{k v:Ty}{rest:List (k.den×v.den)}{c:Option (k.den×v.den)}(hb:σ.hp[b]? =some (some (.kB k v rest c))):Wk gl σ {σ with hp:=σ.hp.set b (some (.kB k v rest none))}:=by
 intro E a w h
 obtain⟨g,om,since,seen,c0,q1,q2,q3⟩:=h.hw.cQ b _ hb
 have hw:=h.hw.write (w':=w) (k':=.kB k v rest none) hb rfl (fun _ _=>rfl) ⟨g,om,since,seen,c0,q1,q2,q3.imp (fun h=>⟨h.1,h.2.1,rfl⟩) (fun⟨bm,en,r1,r2,r3,r4,r5,r6,r7,_⟩=>⟨bm,en,r1,r2,r3,r4,r5,r6,r7,fun x hx=>by cases hx⟩)⟩
 refine⟨E,⟨h.len,h.tm,hw,h.df⟩,{Ext.refl (bx σ.hp E) E w with own:=?_ }⟩
 grind [bx.set]
def F4(φ:AV→Option AV):List AV→List AV
 |[]=>[]
 |x::l=>(if x.plain then(match φ x with|some y=>y|none=>.bot) else .bot)::F4 φ l
def okD:AV→AV→Bool
 | .mp _,.mp _=>true
 | .mp _,_=>false
 |_,_=>true
def yk(φ:AV→Option AV):List AV→Option (List AV)
 |[]=>some []
 |
  x::l=>match φ x,yk φ l with
  |some y,some m=>if okD x y then some (y::m) else none
  |_,_=>none
def PV{K:Type}(φ:AV→Option AV):List (K×AV)→Option (List (K×AV))
 |[]=>some []
 |
  (k,x)::l=>match φ x,PV φ l with
  |some y,some m=>some ((k,y)::m)
  |_,_=>none
def je(φ:AV→Option AV):Option aO→Option (Option aO)
 |
  some (.var t v)=>match φ v with
  |some u=>if u.cp t then some (some (.var t u)) else none
  |none=>none
 |
  some (.tv g t v)=>match φ v with
  |some u=>if u.cp t then some (some (.tv g t u)) else none
  |none=>none
 |
  some (.cI e bs t xs i v)=>match φ v with
  |some u=>if u.cp t then some (some (.cI e bs t xs i u)) else none
  |none=>none
 |
  some (.cT e bs t xs e2 (some (i,v)))=>match φ v with
  |some u=>if u.cp t then some (some (.cT e bs t xs e2 (some (i,u)))) else none
  |none=>none
 |
  some (.pmap k t es e2 (some (i,v,p)))=>match φ v with
  |some u=>if u.cp t then some (some (.pmap k t es e2 (some (i,u,p)))) else none
  |none=>none
 |some (.gp ..)=>none
 |some (.mN ..)=>none
 |some (.iu k l)=>(PV φ l).map fun l=>some (.iu k l)
 |k=>some k
def PW(φ:AV→Option AV):List (Option aO)→Option (List (Option aO))
 |[]=>some []
 |
  k::l=>match je φ k,PW φ l with
  |some k',some m=>some (k'::m)
  |_,_=>none
theorem jO{φ:AV→Option AV}:∀{l:List AV},(F4 φ l).length=l.length
 |[]=>rfl
 |_::l=>by simp[F4,jO (l:=l)]
variable{φ:AV→Option AV}
theorem jP:∀{l:List AV}{i:Nat}{y:AV},(F4 φ l)[i]? =some y→y= .bot∨∃x,l[i]? =some x∧x.plain=true∧φ x=some y
 |[],i,y,h=>by trivial
 |
  x::l,0,y,h=>by
  simp only[F4,List.getElem?_cons_zero,cX] at h
  grind
 |
  x::l,i+1,y,h=>by
  simp only[F4,we] at h
  simpa using jP h
theorem jQ:∀{l m:List (Option aO)},PW φ l=some m→∀{i:Nat}{k:aO},m[i]? =some (some k)→∃k0,l[i]? =some (some k0)∧je φ (some k0)=some (some k)
 |[],m,h,i,k,hk=>by cases h;grind
 |
  x::l,m,h,i,k,hk=>by
  simp only[PW] at h
  split at h
  ·rename_i k' m' h1 h2
   cases h
   cases i with
   |
    zero=>
    simp at hk
    subst hk
    cases x with
    |none=>simp[je] at h1
    |some x=>grind
   |succ i=>obtain⟨k0,e1,e2⟩:=jQ h2 (i:=i) (by simpa using hk);exact⟨k0,by simpa using e1,e2⟩
  grind
def St.gj(φ:AV→Option AV)(σ:St):Option St:=
 match PW φ σ.hp,yk φ σ.df with
 |some hp,some df=>some ⟨F4 φ σ.tm,hp,df⟩
 |_,_=>none
structure Good(E E':Env)(w:World)(φ:AV→Option AV):Prop where
 rc:∀x y vs,φ x=some y→RC E w x vs→RC E' w y vs
 agg:∀x y,φ x=some y→y.isAgg=x.isAgg
 fn:∀fn fs cs y,φ (.func fn fs cs)=some y→∃fs' cs',y= .func fn fs' cs'∧φ fs=some fs'∧φ cs=some cs'∧fs'.atoms=true∧cs'.atoms=true
 mp:∀b b',φ (.mp b)=some (.mp b')→E'.g b'=E.g b
variable{E':Env}
theorem Good.RV(g:Good E E' w φ){x y:AV}{v:Value}(h:φ x=some y)(hr:bZ E w x v):bZ E' w y v:=by
 rcases hr with⟨h1,cs,e,h2⟩|⟨h1,h2⟩
 ·exact Or.inl ⟨by rw[g.agg x y h];exact h1,cs,e,g.rc x y _ h h2⟩
 ·exact Or.inr ⟨by rw[g.agg x y h];exact h1,g.rc x y _ h h2⟩
theorem Good.RD(g:Good E E' w φ):∀{l m:List AV}{ds:List Deferred},yk φ l=some m→Ax.RD E w l ds→Ax.RD E' w m ds
 |
  [],m,ds,h,hr=>by
  cases h
  cases ds with
  |nil=>trivial
  |cons _ _=>trivial
 |
  x::l,m,ds,h,hr=>by
  simp only[yk] at h
  split at h
  ·rename_i y m' h1 h2
   split at h
   case isFalse=>cases h
   rename_i fT
   cases h
   cases ds with
   |nil=>cases x<;>exact hr.elim
   |
    cons d ds=>
    cases x with
    |
     func fn fs cs=>
     obtain⟨fs',cs',e,k1,k2,k3,k4⟩:=g.fn fn fs cs y h1
     subst e
     obtain⟨⟨f,c,e,r1,r2,r3,r4⟩,r5⟩:=hr
     exact⟨⟨f,c,e,g.rc _ _ _ k1 r1,g.rc _ _ _ k2 r2,k3,k4⟩,g.RD h2 r5⟩
    |
     mp b=>
     cases y<;>simp[okD] at fT
     rename_i b'
     have k1:=g.mp b b' h1
     obtain⟨⟨i,e1,e2⟩,r5⟩:=hr
     exact⟨⟨i,by grind,e2⟩,g.RD h2 r5⟩
    |_=>trivial
  grind
variable{kt:Ty}
theorem Good.RF(g:Good E E' w φ)(hS:∀b,E.S b→E'.S b):∀{en:List MapEntry}{l l':List (kt.den×AV)},PV φ l=some l'→Ax.RF E w kt en l→Ax.RF E' w kt en l'∧l'.map (·.1)=l.map (·.1)
 |[],[],l',h,hr=>by cases h;trivial
 |[],_::_,_,h,hr=>hr.elim
 |_::_,[],_,h,hr=>hr.elim
 |
  e::en,(k,x)::l,l',h,hr=>by
  simp only[PV] at h
  split at h
  ·rename_i y m h1 h2
   cases h
   obtain⟨r1,r2,r3,r4⟩:=hr
   obtain⟨q1,q2⟩:=g.RF hS h2 r4
   exact⟨⟨bZ.mono ⟨fun _ _=>rfl,hS⟩ (fun _ hb=>by cases hb) r1,g.rc _ _ _ h1 r2,by rw[g.agg _ _ h1];exact r3,q1⟩,by simp[q2]⟩
  grind
variable{b':Nat}{k':aO}
theorem Good.RB(g:Good E E' w φ)(hS:∀b,E.S b→E'.S b){b:Nat}{k:aO}(hg:E'.g b'=E.g b)(hsv:E'.sv b'=E.sv b)(hbt:E'.bt b'=E.bt b)(hP:k.Ua=true→∀g,E.P b g→E'.P b' g)(hk:je φ (some k)=some (some k'))(h:Ax.RB E w b k):Ax.RB E' w b' k':=by
 have kp:bE E w E' w:=⟨fun _ _=>rfl,hS⟩
 cases k with
 |
  var t v=>
  simp only[je] at hk
  split at hk
  ·rename_i u hu
   split at hk
   ·rename_i hc
    cases hk
    obtain⟨h1,h2,i,c,e,h3,h4,h5⟩:=h
    exact⟨by grind,hc,i,c,e,by grind,h4,g.rc v u _ hu h5⟩
   grind
  grind
 |
  row e bs t xs=>
  simp only[je,cX] at hk;subst hk
  obtain⟨h1,h2,h3,h4,a,cap,h5,h6,h7⟩:=h
  refine⟨by grind,h2,h3,h4,a,cap,by grind,h6,?_⟩
  rcases h7 with⟨h7,h8,h9⟩|⟨i,c,h7,h8,h9,h10,h11,h12⟩
  ·grind
  ·exact Or.inr ⟨i,c,by grind,h8,h9,h10,h11,bk.mono (fun _ _=>Rel.mono kp.w kp.S) h12⟩
 |
  map kt vt es=>
  simp only[je,cX] at hk;subst hk
  obtain⟨h1,h1',i,en,clock,h2,h3,h4,h5,h6⟩:=h
  exact⟨h1,h1',i,en,clock,by grind,h3,RM.mono kp h4,h5,h6⟩
 |
  gq e bs t xs=>
  simp only[je,cX] at hk;subst hk
  obtain⟨ys,hp,h1,h2,h3,h4,a,cap,h5,h6,h7⟩:=h
  refine⟨ys,hp,by grind,h2,h3,h4,a,cap,by grind,h6,?_⟩
  rcases h7 with⟨h7,h8,h9⟩|⟨i,c,h7,h8,h9,h10,h11,h12⟩
  ·grind
  ·exact Or.inr ⟨i,c,by grind,h8,h9,h10,h11,bk.mono (fun _ _=>Rel.mono kp.w kp.S) h12⟩
 |
  kB k v rest cur=>
  simp only[je,cX] at hk;subst hk
  obtain⟨gg,om,since,seen,c0,q1,q2,q3⟩:=h
  refine⟨gg,om,since,seen,c0,by grind,q2,q3.imp id ?_⟩
  rintro⟨bm,en,r1,r2,r3,r4,r5,r6,r7,r8⟩
  refine⟨bm,en,r1,kp.S bm r2,r3,r4,r5,r6,RM.mono kp r7,fun x hx=>?_⟩
  obtain⟨e,s0,t1,t2,t3,t4⟩:=r8 x hx
  exact⟨e,s0,t1,t2,bZ.mono kp (fun _ hb=>by cases hb) t3,bZ.mono kp (fun _ hb=>by cases hb) t4⟩
 |
  cT e bs t xs e2' f=>
  cases f with
  |
   none=>
   simp only[je,cX] at hk;subst hk
   obtain⟨h1,h2,h3,h4,h5,gg,cap,c,og,q1,q2,q3,q4,q5,q6,q7,q8⟩:=h
   refine⟨by grind,h2,h3,h4,h5,gg,cap,c,og,by grind,q2,by grind,q4,q5,q6,q7.mono (hP rfl),fun i x hx=>?_⟩
   obtain⟨u,r1,r2,r3⟩:=q8 i x hx
   exact⟨u,r1,fun v hv=>(by cases hv),fun hv=>cZ.mono kp.w kp.S (fun _ _=>rfl) (r3 (fun v hv=>by cases hv))⟩
  |
   some f=>
   obtain⟨j,v⟩:=f
   simp only[je] at hk
   split at hk
   ·rename_i u hu
    split at hk
    ·rename_i hc
     cases hk
     obtain⟨h1,h2,h3,h4,h5,gg,cap,c,og,q1,q2,q3,q4,q5,q6,q7,q8⟩:=h
     refine⟨by rw[hbt];exact h1,h2,h3,h4,fun i v' hv=>by grind,gg,cap,c,og,by grind,q2,by grind,q4,q5,q6,q7.mono (hP rfl),fun i x hx=>?_⟩
     obtain⟨u',r1,r2,r3⟩:=q8 i x hx
     refine⟨u',r1,fun v' hv=>?_,fun hv=>cZ.mono kp.w kp.S (fun _ _=>rfl) (r3 (fun v' hv'=>by grind))⟩
     cases hv
     exact⟨(r2 v rfl).1,g.rc v u _ hu (r2 v rfl).2⟩
    grind
   grind
 |
  pmap kt t es e2' f=>
  cases f with
  |
   none=>
   simp only[je,cX] at hk;subst hk
   obtain⟨h1,h2,h3,gg,en,clock,og,q1,q2,q3,q4,q5,q6,q7,q8⟩:=h
   refine⟨h1,h2,h3,gg,en,clock,og,by grind,q2,q3,q4,q5.mono (hP rfl),q6,fun i x hx=>?_,fun kx v=>⟨fun hf=>(by cases hf),fun hf=>(by cases hf)⟩⟩
   obtain⟨m,r1,r2,r3,r4⟩:=q7 i x hx
   exact⟨m,r1,bZ.mono kp (fun _ hb=>by cases hb) r2,fun v pr hv=>(by cases hv),fun hv=>cZ.mono kp.w kp.S (fun _ _=>rfl) (r4 (fun v pr hv=>by cases hv))⟩
  |
   some f=>
   obtain⟨j,v,p⟩:=f
   simp only[je] at hk
   split at hk
   ·rename_i u hu
    split at hk
    ·rename_i hc
     cases hk
     obtain⟨h1,h2,h3,gg,en,clock,og,q1,q2,q3,q4,q5,q6,q7,q8⟩:=h
     refine⟨h1,h2,fun kx v' pr hv=>by grind,gg,en,clock,og,by grind,q2,q3,q4,q5.mono (hP rfl),q6,fun i x hx=>?_,fun kx v'=>⟨fun hf hn=>?_,fun hf=>?_⟩⟩
     ·obtain⟨m,r1,r2,r3,r4⟩:=q7 i x hx
      refine⟨m,r1,bZ.mono kp (fun _ hb=>by cases hb) r2,fun v' pr hv=>?_,fun hv=>cZ.mono kp.w kp.S (fun _ _=>rfl) (r4 (fun v' pr hv'=>by grind))⟩
      cases hv
      exact⟨(r3 v _ rfl).1,g.rc v u _ hu (r3 v _ rfl).2⟩
     ·cases hf
      exact g.rc v u _ hu ((q8 _ v).1 rfl hn)
     grind
    grind
   grind
 |gp k t es e2' kx v pr=>trivial
 |mN k t es kx=>trivial
 |
  iu kt l=>
  simp only[je,gW] at hk
  obtain⟨l',hl,e⟩:=hk
  cases e
  obtain⟨h1,h2,gg,en,clock,q1,q2,q3⟩:=h
  obtain⟨r1,r2⟩:=g.RF hS hl q3
  refine⟨by grind,?_,gg,en,clock,by grind,q2,r1⟩
  have:=congrArg List.length r2
  grind
 |lp l r=>simp only[je,cX] at hk;subst hk;exact⟨by rw[hg];exact h.1,h.2⟩
 |uS=>simp only[je,cX] at hk;subst hk;obtain⟨i,h1,h2⟩:=h;exact⟨i,by grind,h2⟩
 |
  tv gg t v=>
  simp only[je] at hk
  split at hk
  ·rename_i u hu
   split at hk
   ·rename_i hc
    cases hk
    obtain⟨h0,h1,h2,c,e,h4,h5⟩:=h
    exact⟨by grind,by grind,hc,c,e,h4,g.rc v u _ hu h5⟩
   grind
  grind
 |
  cI e bs t xs i v=>
  simp only[je] at hk
  split at hk
  ·rename_i u hu
   split at hk
   ·rename_i hc
    cases hk
    obtain⟨h1,h2,h3,h4,h5,h6,gg,cap,c,q1,q2,q3,q4,q5,q6,q7,q8,q9⟩:=h
    exact⟨by grind,h2,h3,h4,h5,hc,gg,cap,c,by grind,q2,by grind,q4,q5,q6,bk.mono (fun _ _=>Rel.mono kp.w kp.S) q7,g.rc v u _ hu q8,bk.mono (fun _ _=>Rel.mono kp.w kp.S) q9⟩
   grind
  grind
def fz(hb:Nat→Option aO)(b:Nat)(t:Ty):AV→Option AV
 | .own c=>if Nat.beq c b then(view hb (.own c) false t).map (·.1) else some (.own c)
 | .ku c lo len=>if Nat.beq c b then(view hb (.ku c lo len) false t).map (·.1) else some (.ku c lo len)
 |
  .ptr c p=>if Nat.beq c b then(match view hb (.ptr c p) false t with
  |some (y,[_])=>some y
  |_=>none) else some (.ptr c p)
 | .mp c=>if Nat.beq c b then(view hb (.mp c) false t).map (·.1) else some (.mp c)
 |
  .func fn fs cs=>match fz hb b t fs,fz hb b t cs with
  |some f,some c=>if f.atoms&&c.atoms then some (.func fn f c) else none
  |_,_=>none
 |
  .iface u v=>match fz hb b t v with
  |some x=>some (.iface u x)
  |none=>none
 |
  .cons x y=>match fz hb b t x,fz hb b t y with
  |some u,some v=>some (.cons u v)
  |_,_=>none
 | .bot=>none
 | .fU _=>none
 | .opt _ _=>none
 |x=>some x
theorem xi{x y:AV}{t:Ty}{l:List Nat}{b:Nat}(hx:x= .own b∨(∃lo len,x= .ku b lo len))(h:view hb x false t=some (y,l)):l= [b]:=by
 rcases hx with rfl|⟨lo,len,rfl⟩
 ·have h':(match eH hb b with|some ⟨bs,t,xs⟩=>some (AV.val (.slice bs t) xs,[b])|none=>none)=some (y,l):=by trivial
  grind
 ·have h':(match eH hb b with|some ⟨bs,t,xs⟩=>some (AV.val (.slice bs t) ((xs.drop lo).take len),[b])|none=>none)=some (y,l):=by trivial
  grind
theorem F5{y:AV}{p:Path}{t:Ty}{b c:Nat}(h:view hb (.ptr b p) false t=some (y,[c])):c=b:=by
 have h':(match hb b with
  |
   some k=>match mT k p,(kP k).sub p with
   |
    some u,some s=>match u.bB s with
    |some y=>some (AV.cd s y,[b])
    |none=>mh hb b u
   |_,_=>none
  |none=>none)=some (y,[c]):=by trivial
 split at h'
 ·split at h'
  ·split at h'
   ·cases h';rfl
   ·obtain⟨_,_,l',e,_⟩:=oo h'
    exact(List.cons.inj e).1
  ·cases h'
 ·cases h'
theorem PX{gl:Ctx}(hw:HW gl E w hp)(hB:HB hb hp)(b:Nat)(t:Ty):Good E (E.cH [b]) w (fz hb b t) where
 mp:=by
  intro c y h
  simp only[fz] at h
  split at h
  ·obtain⟨⟨z,l⟩,h1,h2⟩:=Option.map_eq_some_iff.1 h
   have:=sX h1
   grind [AV.ids]
  ·cases h;rfl
 rc:=
  by
  have kp:bE E w (E.cH [b]) w:=Env.db [b]
  intro x
  induction x with
  |
   own c=>
   intro y vs h hr
   simp only[fz] at h
   split at h
   ·rename_i e;have e:=bM e;subst e
    obtain⟨⟨z,l⟩,h1,rfl⟩:=Option.map_eq_some_iff.1 h
    have:=xi (Or.inl rfl) h1;grind [oq]
   ·cases h;trivial
  |
   ku c lo len=>
   intro y vs h hr
   simp only[fz] at h
   split at h
   ·rename_i e;have e:=bM e;subst e
    obtain⟨⟨z,l⟩,h1,rfl⟩:=Option.map_eq_some_iff.1 h
    have:=xi (Or.inr ⟨lo,len,rfl⟩) h1;grind [oq]
   ·cases h;trivial
  |
   ptr c p=>
   intro y vs h hr
   simp only[fz] at h
   split at h
   ·rename_i e;have e:=bM e;subst e
    split at h
    ·rename_i h1
     cases h
     have:=F5 h1
     subst this
     exact oq hw hB h1 hr
    ·cases h
   ·cases h;trivial
  |
   mp c=>
   intro y vs h hr
   simp only[fz] at h
   split at h
   ·rename_i e;have e:=bM e;subst e
    obtain⟨⟨z,l⟩,h1,rfl⟩:=Option.map_eq_some_iff.1 h
    have:l= [c]:=by
     have h':(match hb c with
      |some (.map k v es)=>some (AV.val (.map k v) (some es),[c])
      |_=>none)=some (z,l):=by trivial
     grind
    grind [oq]
   ·cases h;trivial
  |
   func fn fs cs ih1 ih2=>
   intro y vs h hr
   simp only[fz] at h
   split at h
   ·rename_i f c h1 h2
    split at h
    ·rename_i ha
     cases h
     simp only[bj] at ha
     obtain⟨f',c',e,r1,r2,_,_⟩:=hr
     exact⟨f',c',e,ih1 f _ h1 r1,ih2 c _ h2 r2,ha.1,ha.2⟩
    grind
   grind
  |
   iface u v ih=>
   intro y vs h hr
   simp only[fz] at h
   split at h
   ·rename_i z hz
    cases h
    obtain⟨x,e,hr⟩:=hr
    refine⟨x,e,?_⟩
    have amH:=fzAgg v z hz
    grind
   grind
  |
   cons a c ih1 ih2=>
   intro y vs h hr
   simp only[fz] at h
   split at h
   ·rename_i u v h1 h2
    cases h
    obtain⟨v1,v2,e,r1,r2⟩:=hr
    exact⟨v1,v2,e,ih1 u _ h1 r1,ih2 v _ h2 r2⟩
   grind
  |bot=>intro y vs h;trivial
  |fU l=>intro y vs h;trivial
  |opt c v=>intro y vs h;trivial
  |_=>intro y vs h hr;simp only[fz,cX] at h;subst h;exact RC.mono kp (fun _ _=>⟨rfl,rfl,rfl⟩) hr
 agg:=fun x y h=>fzAgg x y h
 fn:=by
  intro fn fs cs y h
  simp only[fz] at h
  grind
where
 fzAgg {hb:Nat→Option aO} {b:Nat} {t:Ty} (x y:AV) (h:fz hb b t x=some y):y.isAgg=x.isAgg:=by
  cases x with
  |
   own c=>
   simp only[fz] at h
   split at h
   ·simp only[gW] at h;obtain⟨⟨z,l⟩,h1,rfl⟩:=h;exact jR h1
   grind
  |
   ku c lo len=>
   simp only[fz] at h
   split at h
   ·simp only[gW] at h;obtain⟨⟨z,l⟩,h1,rfl⟩:=h;exact jR h1
   grind
  |
   ptr c p=>
   simp only[fz] at h
   split at h
   ·split at h
    ·rename_i h1
     cases h
     exact jR h1
    ·cases h
   grind
  |
   mp c=>
   simp only[fz] at h
   split at h
   ·simp only[gW] at h;obtain⟨⟨z,l⟩,h1,rfl⟩:=h;exact jR h1
   grind
  |
   func fn fs cs=>
   simp only[fz] at h
   split at h
   ·split at h
    ·cases h;rfl
    grind
   grind
  |
   iface u v=>
   simp only[fz] at h
   split at h
   ·cases h;rfl
   grind
  |
   cons a c=>
   simp only[fz] at h
   split at h
   ·cases h;rfl
   grind
  |bot=>trivial
  |fU l=>trivial
  |opt c v=>trivial
  |_=>grind [fz]
def eD(hp:List (Option aO))(b:Nat):Option aO:=(hp[b]?).join
theorem bR(hp:List (Option aO)):HB (eD hp) hp:=by
 intro b k hk
 grind [eD]
def freeze(b:Nat)(t:Ty)(σ:St):Option St:=
 match eD σ.hp b with
 |some _=>St.gj (fz (eD σ.hp) b t) {σ with hp:=σ.hp.set b none}
 |none=>none
theorem Wk.freeze{gl:Ctx}{b:Nat}{t:Ty}(h:Ax.freeze b t σ=some σ'):Wk gl σ σ':=by
 intro E a w hg
 unfold Ax.freeze at h
 split at h
 ·rename_i k hk
  have hbk:=bR σ.hp b k hk
  unfold St.gj at h
  split at h
  ·rename_i hp' df' h1 h2
   cases h
   have am8:=PX hg.hw (bR σ.hp) b t
   have hSle:∀i,E.S i→(E.cH [b]).S i:=fun i hi=>Or.inl hi
   have src:∀(i:Nat)(k':aO),hp'[i]? =some (some k')→∃k0,i≠b∧σ.hp[i]? =some (some k0)∧je (fz (eD σ.hp) b t) (some k0)=some (some k'):=by
    grind [jQ]
   refine⟨E.cH [b],⟨?_,?_,⟨?_,?_,?_,?_,hg.hw.gJ (Env.db [b]),fun i k' g' hi hp=>by obtain⟨k0,_,e1,_⟩:=src i k' hi;exact hg.hw.uu i k0 g' e1 hp⟩,am8.RD h2 hg.df⟩,⟨rfl,Tp.r rfl rfl,rfl,dP _,fun _ _ _=>rfl,hSle,?_,?_,fun _ _=>⟨rfl,rfl,rfl⟩⟩⟩
   ·simp only[jO];exact hg.len
   ·intro i y hy v hv
    rcases jP hy with e|⟨x,e1,e2,e3⟩
    ·subst e;trivial
    ·exact RV.eS (am8.RV e3 (RV.jq e2 (hg.tm i x e1 v hv)))
   ·intro i k' hi
    obtain⟨k0,_,e1,e2⟩:=src i k' hi
    exact am8.RB hSle (b:=i) (b':=i) rfl rfl rfl (fun _ _ h=>h) e2 (hg.hw.cQ i k0 e1)
   ·intro i j k1 k2 g' hi hj g1 g2
    obtain⟨k3,_,e1,_⟩:=src i k1 hi
    obtain⟨k4,_,e2,_⟩:=src j k2 hj
    exact hg.hw.ew i j k3 k4 g' e1 e2 g1 g2
   ·intro i k' g' hi hgi hs
    obtain⟨k0,hne,e1,_⟩:=src i k' hi
    rcases hs with hs|⟨c,hc,e⟩
    ·exact hg.hw.dC i k0 g' e1 hgi hs
    ·simp at hc;subst hc
     exact hne (hg.hw.ew i c k0 k g' e1 hbk hgi (Or.inl e))
   ·intro g' hs
    rcases hs with hs|⟨c,hc,e⟩
    ·exact hg.hw.slt g' hs
    ·simp at hc;subst hc
     exact bx.below hg.hw ⟨c,k,hbk,Or.inl e⟩
   ·intro g' hs
    rcases hs with hs|⟨c,hc,e⟩
    ·grind
    ·simp at hc;subst hc
     exact Or.inr (Or.inl ⟨c,k,hbk,Or.inl e⟩)
   ·rintro g' ⟨i,k',hi,hgi⟩
    obtain⟨k0,_,e1,_⟩:=src i k' hi
    exact Or.inl ⟨i,k0,e1,hgi⟩
  grind
 grind
def JS(b:Nat):AV→Bool
 | .ku c _ _| .ptr c _=> !Nat.beq c b
 | .func _ fs cs=>JS b fs&&JS b cs&&fs.atoms&&cs.atoms
 | .iface _ v=>JS b v
 | .cons a c=>JS b a&&JS b c
 | .bot| .fU _| .opt _ _=>false
 |_=>true
def iA(b:Nat)(x:AV):Option AV:=if JS b x then some x else none
def Env.re(E:Env)(b:Nat)(t:Ty):Env:={E with bt:=fun c=>if c=b then t else E.bt c}
theorem Env.It{b c:Nat}{t:Ty}(h:c≠b):(E.re b t).bt c=E.bt c:=by simp[Env.re,h]
theorem Env.Iu{b:Nat}{t:Ty}:(E.re b t).bt b=t:=by simp[Env.re]
theorem ML{b:Nat}{t:Ty}:∀{x:AV}{vs:List Value},JS b x=true→RC E w x vs→RC (E.re b t) w x vs:=by
 intro x
 have ne:∀{c:Nat},(!Nat.beq c b)=true→c≠b:=fun h e=>by simp_all
 induction x with
 |ku c lo len=>intro vs h hr;simp only[RC];rw[Env.It (ne h)];exact hr
 |ptr c p=>intro vs h hr;simp only[RC];rw[Env.It (ne h)];exact hr
 |
  func fn fs cs ih1 ih2=>
  intro vs h hr
  simp only[JS,bj] at h
  obtain⟨f,c,e,h1,h2,h3,h4⟩:=hr
  exact⟨f,c,e,ih1 h.1.1.1 h1,ih2 h.1.1.2 h2,h3,h4⟩
 |
  iface u v ih=>
  intro vs h hr
  obtain⟨x,e,hr⟩:=hr
  refine⟨x,e,?_⟩
  rcases hr with⟨h1,cs,e2,h3⟩|⟨h1,h3⟩
  ·exact Or.inl ⟨h1,cs,e2,ih h h3⟩
  ·exact Or.inr ⟨h1,ih h h3⟩
 |
  cons a c ih1 ih2=>
  intro vs h hr
  simp only[JS,bj] at h
  obtain⟨v1,v2,e,h1,h2⟩:=hr
  exact⟨v1,v2,e,ih1 h.1 h1,ih2 h.2 h2⟩
 |iy v=>intro vs h hr;exact RC.mono (E:=E) (E':=E.re b t) (w:=w) (w':=w) (a:=.iy v) ⟨fun _ _=>rfl,fun _ h=>h⟩ (fun c hc=>by cases hc) hr
 |bot=>intro vs h;trivial
 |fU l=>intro vs h;trivial
 |opt c v=>intro vs h;trivial
 |_=>intro vs h hr;exact hr
theorem A3{b:Nat}{t:Ty}:Good E (E.re b t) w (iA b) where
 rc:=by
  grind [iA,ML]
 agg:=by
  grind [iA]
 mp:=by
  intro c y h
  unfold iA at h
  split at h
  ·cases h;rfl
  grind
 fn:=by
  intro fn fs cs y h
  unfold iA at h
  split at h
  ·rename_i hn
   cases h
   simp only[JS,bj] at hn
   exact⟨fs,cs,rfl,by unfold iA;grind,by unfold iA;grind,hn.1.2,hn.2⟩
  grind
theorem bQ.re{gl:Ctx}{a:Act}(hg:bQ gl σ E a w){b:Nat}{k:aO}(hb:σ.hp[b]? =some (some k))(h16:16≤b)(hm:St.gj (iA b) {σ with hp:=σ.hp.set b none}=some σ1)(hk:RB (E.re b ty) w b k'):
 bQ gl {σ1 with hp:=σ1.hp.set b (some k')} (E.re b ty) a w∧Ext gl.md (bx σ.hp E) E w (bx (σ1.hp.set b (some k')) (E.re b ty)) (E.re b ty) w:=by
 have am8:=A3 (E:=E) (w:=w) (b:=b) (t:=ty)
 unfold St.gj at hm
 split at hm
 ·rename_i hp' df' h3 h4
  cases hm
  have src:∀(i:Nat)(k2:aO),(hp'.set b (some k'))[i]? =some (some k2)→(i=b∧k'=k2)∨(i≠b∧∃k0,σ.hp[i]? =some (some k0)∧je (iA b) (some k0)=some (some k2)):=by
   intro i k2 hi
   rw[dv] at hi
   split at hi
   ·grind
   ·rename_i hne
    obtain⟨k0,e1,e2⟩:=jQ h3 hi
    grind
  have any:∀(i:Nat)(k2:aO),(hp'.set b (some k'))[i]? =some (some k2)→∃k0,σ.hp[i]? =some (some k0):=by
   grind
  refine⟨⟨?_,?_,⟨?_,?_,?_,hg.hw.slt,hg.hw.gl,?_⟩,am8.RD h4 hg.df⟩,⟨rfl,Tp.r rfl rfl,rfl,dP _,fun _ _ _=>rfl,fun _ h=>h,fun _ h=>Or.inl h,?_,fun i hi=>⟨rfl,rfl,Env.It (by omega)⟩⟩⟩
  ·simp only[jO];exact hg.len
  ·intro i y hy v hv
   rcases jP hy with e|⟨x,e1,e2,e3⟩
   ·subst e;trivial
   ·exact RV.eS (am8.RV e3 (RV.jq e2 (hg.tm i x e1 v hv)))
  ·intro i k2 hi
   rcases src i k2 hi with⟨e,e'⟩|⟨e1,k0,e3,e4⟩
   ·grind
   ·exact am8.RB (fun _ h=>h) (b:=i) (b':=i) rfl rfl (Env.It e1) (fun _ _ h=>h) e4 (hg.hw.cQ i k0 e3)
  ·intro i j k2 k3 g hi hj g1 g2
   obtain⟨k4,e1⟩:=any i k2 hi
   obtain⟨k5,e2⟩:=any j k3 hj
   exact hg.hw.ew i j k4 k5 g e1 e2 g1 g2
  ·intro i k2 g hi hgi hs
   obtain⟨k4,e1⟩:=any i k2 hi
   exact hg.hw.dC i k4 g e1 hgi hs
  ·intro i k2 g hi hgi
   obtain⟨k4,e1⟩:=any i k2 hi
   exact hg.hw.uu i k4 g e1 hgi
  ·rintro g ⟨i,k2,hi,hgi⟩
   obtain⟨k4,e1⟩:=any i k2 hi
   exact Or.inl ⟨i,k4,e1,hgi⟩
 grind
def rf(b:Nat):Bool:=Nat.ble 16 b
def k9(b:Nat)(σ:St):Option St:=
 match eD σ.hp b with
 |
  some (.cI e bs t xs i v)=>match v.bB t with
  |
   some y=>if rf b then(match St.gj (iA b) {σ with hp:=σ.hp.set b none} with
   |some σ1=>some {σ1 with hp:=σ1.hp.set b (some (.row e bs t (xs.set i y)))}
   |none=>none) else none
  |none=>none
 |_=>none
variable{α:Type}
theorem bk.join{r:List Value→α→Prop}:∀{xs ys:List α}{vs us:List Value},bk r vs xs→bk r us ys→bk r (vs++us) (xs++ys)
 |[],ys,vs,us,h,k=>by simp[bk] at h;grind
 |
  x::xs,ys,vs,us,⟨v1,v2,e,h1,h2⟩,k=>by
  subst e
  exact⟨v1,v2++us,by simp,h1,bk.join h2 k⟩
theorem JT{xs:List α}{i:Nat}{y:α}(h:i<xs.length):xs.set i y=xs.take i++y::xs.drop (i+1):=by
 rw[List.set_eq_take_append_cons_drop,aA h]
theorem Wk.k9{gl:Ctx}{b:Nat}(h:Ax.k9 b σ=some σ'):Wk gl σ σ':=by
 intro E a w hg
 unfold Ax.k9 at h
 split at h
 ·rename_i e bs t xs i v hb
  have hb:=bR σ.hp b _ hb
  split at h
  ·rename_i y hy
   split at h
   ·rename_i h16
    split at h
    ·rename_i σ1 hm
     cases h
     obtain⟨h1,h2,h3,h4,h5,h6,g,cap,c,q1,q2,q3,q4,q5,q6,q7,q8,q9⟩:=hg.hw.cQ b _ hb
     obtain⟨r1,r2⟩:=hg.re (k':=.row e bs t (xs.set i y)) (ty:=.arr xs.length t) hb (iU h16) hm (by
      refine⟨by rw[Env.Iu,jj],by grind,by grind,h5,some ⟨g,0,none⟩,cap,by rw[jj];exact q1,q2,Or.inr ⟨g,c,q3,rfl,q4,q5,by grind,?_⟩⟩
      rw[jj,JT h2]
      have hmid:Rel w E.S t ((c.toList.drop (i*t.size)).take t.size) y:=RC.bB hy q8
      have hsp:c.toList.take (xs.length*t.size)=c.toList.take (i*t.size)++((c.toList.drop (i*t.size)).take t.size++(c.toList.drop ((i+1)*t.size)).take ((xs.length -(i+1))*t.size)):=by
       have e1:xs.length*t.size=i*t.size+(t.size+(xs.length -(i+1))*t.size):=by
        rw[←Nat.add_assoc,show i*t.size+t.size=(i+1)*t.size from by grind,←gX]
        grind
       simp_all[List.take_add,gX]
      rw[hsp]
      exact bk.join q7 ⟨_,_,rfl,hmid,q9⟩)
     grind
    grind
   grind
  grind
 grind
def zC(b i:Nat)(σ:St):Option St:=
 match eD σ.hp b with
 |some (.row e bs t xs)=>if rf b then(match St.gj (iA b) {σ with hp:=σ.hp.set b none} with
  |some σ1=>some {σ1 with hp:=σ1.hp.set b (some (.cI e bs t xs i (.val t (xs.getD i t.aD))))}
  |none=>none) else none
 |_=>none
variable{S:Nat→Prop}
theorem bk.split{t:Ty}{xs:List t.den}{cs:List Value}{i:Nat}(h:bk (Rel w S t) cs xs)(hi:i<xs.length):
 bk (Rel w S t) (cs.take (i*t.size)) (xs.take i)∧Rel w S t ((cs.drop (i*t.size)).take t.size) (xs.getD i t.aD)∧bk (Rel w S t) (cs.drop ((i+1)*t.size)) (xs.drop (i+1)):=
 ⟨bk.take (fun _ _=>Rel.len) i h,by grind [bk.get,Rel.len],bk.drop (fun _ _=>Rel.len) (i+1) h⟩
theorem D1{gl:Ctx}{b i:Nat}(h:zC b i σ=some σ'){a:Act}(hg:bQ gl σ E a w)(hi:∀e bs t xs,eD σ.hp b=some (.row e bs t xs)→i<xs.length):
 ∃n t,E.bt b= .arr n t∧bQ gl σ' (E.re b (mP i n t)) a w∧Ext gl.md (bx σ.hp E) E w (bx σ'.hp (E.re b (mP i n t))) (E.re b (mP i n t)) w:=by
 unfold zC at h
 split at h
 ·rename_i e bs t xs hb0
  have hb:=bR σ.hp b _ hb0
  have hi:=hi _ _ _ _ hb0
  split at h
  ·rename_i h16
   split at h
   ·rename_i σ1 hm
    cases h
    obtain⟨h1,h2,h3,h4,ad,cap,h5,h6,h7⟩:=hg.hw.cQ b _ hb
    rcases h7 with⟨_,_,h9⟩|⟨g,c,h7,h8,h9,h10,h11,h12⟩
    ·grind
    ·subst h8
     refine⟨xs.length,t,h1,?_⟩
     refine hg.re hb (iU h16) hm ⟨Env.Iu,hi,h2,h3,h4,Ty.cV t,g,cap,c,h5,h6,h7,h9,h10,h11,?_,?_,?_⟩
     ·obtain⟨q1,_,_⟩:=bk.split h12 hi
      rw[qw,qx (ji _ (by omega))] at q1
      exact q1
     ·obtain⟨_,q2,_⟩:=bk.split h12 hi
      rw[mM,qw,qx (by rw[←Nat.sub_mul];exact Nat.le_mul_of_pos_left _ (by omega))] at q2
      exact q2
     ·obtain⟨_,_,q3⟩:=bk.split h12 hi
      rw[mM,←Nat.sub_mul] at q3
      exact q3
   grind
  grind
 grind
theorem Wk.adw{gl:Ctx}{b i:Nat}(h:zC b i σ=some σ')(hi:∀e bs t xs,eD σ.hp b=some (.row e bs t xs)→i<xs.length):Wk gl σ σ':=by
 intro E a w hg
 grind [D1]
theorem Wk.adx{gl:Ctx}{b i s:Nat}(hs:σ.tm[s]? =some (.ptr b [.idx i]))(h:zC b i σ=some σ'):Wk gl σ {σ' with tm:=σ'.tm.set s (.ptr b [.cD 1])}:=by
 intro E a w hg
 have hlt:s<a.tmps.size:=by rw[hg.len];grind
 obtain⟨g,hgb,e,hv⟩:=RV.atom rfl (hg.tm s _ hs a.tmps[s] (by grind))
 obtain⟨n,t,hbt,h1,h2⟩:=D1 h hg (fun e bs t xs hb=>by
  have hk:=hg.hw.cQ b _ (bR σ.hp b _ hb)
  have:=hk.1
  rw[this] at hv
  exact hv.1)
 refine⟨_,⟨by simp only[jj];exact h1.len,?_,h1.hw,h1.df⟩,h2⟩
 intro j x hx v hv'
 simp only[dv] at hx
 split at hx
 ·rename_i e';subst e'
  split at hx
  ·cases hx
   rw[Array.getElem?_eq_getElem hlt] at hv'
   cases hv'
   simp at e
   refine RV.eS (Or.inr ⟨rfl,g,hgb,?_,?_⟩)
   ·grind [Env.Iu,mP,Ty.off,Ty.size]
   ·rw[Env.Iu];exact Ty.jA t
  grind
 ·exact h1.tm j x hx v hv'
def Yi(d:Nat)(x:AV):Bool:=x.ids.all fun c=> !Nat.beq c d
def mn(b d:Nat)(x:AV):Option AV:=if JS b x&&Yi d x then some x else none
theorem MM{d:Nat}{x:AV}(h:Yi d x=true):∀c∈x.ids,c≠d:=fun c hc e=>by
 simp only[Yi,j6] at h
 have:=h c hc
 simp_all
def Env.pull(E:Env)(b d:Nat)(og:Option Nat)(v:Value)(td tb:Ty):Env where
 g:=fun c=>if c=d then og else E.g c
 sv:=fun c=>if c=d then v else E.sv c
 bt:=fun c=>if c=d then td else if c=b then tb else E.bt c
 S:=E.S
 P:=fun c x=>c≠d∧E.P c x∧(c=b→og≠some x)
variable{tb:Ty}{og:Option Nat}{td:Ty}
theorem Env.Iv{b d:Nat}{v:Value}{c:Nat}(h1:c≠d)(h2:c≠b):(E.pull b d og v td tb).g c=E.g c∧(E.pull b d og v td tb).sv c=E.sv c∧(E.pull b d og v td tb).bt c=E.bt c:=by simp[Env.pull,h1,h2]
theorem Env.nn{b d:Nat}{v:Value}{c x:Nat}(h:c≠d)(k:(E.pull b d og v td tb).has c x):E.has c x:=by
 rcases k with k|k
 ·exact Or.inl (by simpa[Env.pull,h] using k)
 ·exact Or.inr k.2.1
theorem Env.ri{b d:Nat}{v:Value}{x:Nat}(k:(E.pull b d og v td tb).has d x):og=some x:=by
 rcases k with k|k
 ·simpa[Env.pull] using k
 ·exact absurd rfl k.1
theorem PY{b d:Nat}{v:Value}{x:AV}{vs:List Value}(h1:JS b x=true)(h2:Yi d x=true)(hr:RC E w x vs):RC (E.pull b d og v td tb) w x vs:=by
 have:=ML (t:=tb) h1 hr
 refine RC.mono (E:=E.re b tb) (E':=E.pull b d og v td tb) (w:=w) ⟨fun _ _=>rfl,fun _ h=>h⟩ (fun c hc=>?_) this
 grind [MM,Env.pull,Env.re]
theorem MN{b d:Nat}{v:Value}:Good E (E.pull b d og v td tb) w (mn b d) where
 rc:=by
  intro x y vs h hr
  unfold mn at h
  split at h
  ·simp_all[PY]
  grind
 agg:=by
  grind [mn]
 mp:=by
  intro c y h
  unfold mn at h
  split at h
  ·rename_i hn
   cases h
   simp only[bj] at hn
   have:=MM hn.2 c (by simp[AV.ids])
   simp[Env.pull,this]
  grind
 fn:=by
  intro fn fs cs y h
  unfold mn at h
  split at h
  ·rename_i hn
   cases h
   simp only[bj,JS] at hn
   have h2:=hn.2
   simp only[Yi,AV.ids,List.all_append,bj] at h2
   exact⟨fs,cs,rfl,by unfold mn;rw[aA];simp only[bj];exact⟨hn.1.1.1.1,h2.1⟩,by unfold mn;rw[aA];simp only[bj];exact⟨hn.1.1.1.2,h2.2⟩,hn.1.1.2,hn.1.2⟩
  grind
variable{k1:aO}{k2:aO}
theorem bQ.pull{gl:Ctx}{a:Act}(hg:bQ gl σ E a w){b d:Nat}{k:aO}{v:Value}(hb:σ.hp[b]? =some (some k))(h16:16≤b)(hbd:b≠d)(hd:σ.fresh d)
 (hP:∀x,og=some x→E.P b x∧E.g b≠some x) (hm:St.gj (mn b d) {σ with hp:=σ.hp.set b none}=some σ1) (hk1:RB (E.pull b d og v td tb) w b k1) (hk2:RB (E.pull b d og v td tb) w d k2):
 bQ gl {σ1 with hp:=(σ1.hp.set b (some k1)).set d (some k2)} (E.pull b d og v td tb) a w∧Ext gl.md (bx σ.hp E) E w (bx ((σ1.hp.set b (some k1)).set d (some k2)) (E.pull b d og v td tb)) (E.pull b d og v td tb) w:=by
 have am8:=MN (E:=E) (w:=w) (b:=b) (d:=d) (og:=og) (v:=v) (td:=td) (tb:=tb)
 have h16d:=hd.2.2
 unfold St.gj at hm
 split at hm
 ·rename_i hp' df' h3 h4
  cases hm
  have src:∀(i:Nat)(k3:aO),((hp'.set b (some k1)).set d (some k2))[i]? =some (some k3)→(i=d∧k2=k3)∨(i≠d∧i=b∧k1=k3)∨(i≠d∧i≠b∧∃k0,σ.hp[i]? =some (some k0)∧je (mn b d) (some k0)=some (some k3)):=by
   intro i k3 hi
   rw[dv] at hi
   split at hi
   ·grind
   ·rename_i hne0
    have hne0:i≠d:=fun e=>hne0 e.symm
    rw[dv] at hi
    split at hi
    ·grind
    ·rename_i hne
     obtain⟨k0,e1,e2⟩:=jQ h3 hi
     grind
  have any:∀(i:Nat)(k3:aO),((hp'.set b (some k1)).set d (some k2))[i]? =some (some k3)→i≠d→∃k0,σ.hp[i]? =some (some k0):=by
   grind
  have old:∀x i,i≠d→(E.pull b d og v td tb).has i x→og=some x→∀k0,σ.hp[i]? =some (some k0)→False:=by
   intro x i hi hh ho k0 hk0
   obtain⟨p1,p2⟩:=hP x ho
   have e:=hg.hw.ew b i k k0 x hb hk0 (Or.inr p1) (Env.nn hi hh)
   subst e
   rcases hh with hh|hh
   ·grind [Env.pull]
   ·exact hh.2.2 rfl ho
  refine⟨⟨?_,?_,⟨?_,?_,?_,hg.hw.slt,hg.hw.gl,?_⟩,am8.RD h4 hg.df⟩,⟨rfl,Tp.r rfl rfl,rfl,dP _,fun _ _ _=>rfl,fun _ h=>h,fun _ h=>Or.inl h,?_,fun i hi=>Env.Iv (by omega) (by omega)⟩⟩
  ·simp only[jO];exact hg.len
  ·intro i y hy u hu
   rcases jP hy with e|⟨x,e1,e2,e3⟩
   ·subst e;trivial
   ·exact RV.eS (am8.RV e3 (RV.jq e2 (hg.tm i x e1 u hu)))
  ·intro i k3 hi
   rcases src i k3 hi with⟨e,e'⟩|⟨_,e,e'⟩|⟨e0,e1,k0,e3,e4⟩
   ·grind
   ·grind
   ·obtain⟨z1,z2,z3⟩:=Env.Iv (E:=E) (og:=og) (v:=v) (td:=td) (tb:=tb) e0 e1
    exact am8.RB (fun _ h=>h) (b:=i) (b':=i) z1 z2 z3 (fun _ x hx=>⟨e0,hx,fun e=>absurd e e1⟩) e4 (hg.hw.cQ i k0 e3)
  ·intro i j k3 k4 x hi hj g1 g2
   by_cases e:i=d<;>by_cases e':j=d
   ·grind
   ·grind [Env.ri]
   ·grind [Env.ri]
   ·obtain⟨k5,f1⟩:=any i k3 hi e
    obtain⟨k6,f2⟩:=any j k4 hj e'
    exact hg.hw.ew i j k5 k6 x f1 f2 (Env.nn e g1) (Env.nn e' g2)
  ·intro i k3 x hi hx hs
   by_cases e:i=d
   ·subst e
    exact hg.hw.dC b k x hb (Or.inr (hP x (Env.ri hx)).1) hs
   ·obtain⟨k5,f1⟩:=any i k3 hi e
    exact hg.hw.dC i k5 x f1 (Env.nn e hx) hs
  ·intro i k3 x hi hx
   obtain⟨k5,f1⟩:=any i k3 hi hx.1
   exact hg.hw.uu i k5 x f1 hx.2.1
  ·rintro x ⟨i,k3,hi,hx⟩
   by_cases e:i=d
   ·subst e
    exact Or.inl ⟨b,k,hb,Or.inr (hP x (Env.ri hx)).1⟩
   ·obtain⟨k5,f1⟩:=any i k3 hi e
    exact Or.inl ⟨i,k5,f1,Env.nn e hx⟩
 grind
def Env.take(E:Env)(b d:Nat)(tb:Ty):Env:=
 {E with bt:=fun c=>if c=b then tb else E.bt c,P:=fun c x=>E.P c x∨(c=b∧E.has d x)}
theorem Env.D2{b d:Nat}{c x:Nat}(h:(E.take b d tb).has c x):E.has c x∨(c=b∧E.has d x):=by
 rcases h with h|h|h
 ·exact Or.inl (Or.inl h)
 ·exact Or.inl (Or.inr h)
 grind
theorem MO{b d:Nat}:Good E (E.take b d tb) w (iA b) where
 rc:=by
  intro x y vs h hr
  unfold iA at h
  split at h
  ·rename_i hn;cases h
   exact RC.mono (E:=E.re b tb) (E':=E.take b d tb) (w:=w) ⟨fun _ _=>rfl,fun _ h=>h⟩ (fun _ _=>⟨rfl,rfl,rfl⟩) (ML hn hr)
  grind
 agg:=(A3 (E:=E) (w:=w) (b:=b) (t:=tb)).agg
 mp:=(A3 (E:=E) (w:=w) (b:=b) (t:=tb)).mp
 fn:=(A3 (E:=E) (w:=w) (b:=b) (t:=tb)).fn
theorem bQ.take{gl:Ctx}{a:Act}(hg:bQ gl σ E a w){b d:Nat}{k:aO}(hb:σ.hp[b]? =some (some k))(h16:16≤b)(hbd:b≠d)(hd:σ.hp[d]? =some (some k2))
 (hm:St.gj (iA b) {σ with hp:=(σ.hp.set b none).set d none}=some σ1) (hk1:RB (E.take b d tb) w b k1):
 bQ gl {σ1 with hp:=σ1.hp.set b (some k1)} (E.take b d tb) a w∧Ext gl.md (bx σ.hp E) E w (bx (σ1.hp.set b (some k1)) (E.take b d tb)) (E.take b d tb) w:=by
 have am8:=MO (E:=E) (w:=w) (b:=b) (d:=d) (tb:=tb)
 unfold St.gj at hm
 split at hm
 ·rename_i hp' df' h3 h4
  cases hm
  have src:∀(i:Nat)(k3:aO),(hp'.set b (some k1))[i]? =some (some k3)→(i=b∧k1=k3)∨(i≠d∧i≠b∧∃k0,σ.hp[i]? =some (some k0)∧je (iA b) (some k0)=some (some k3)):=by
   intro i k3 hi
   rw[dv] at hi
   split at hi
   ·grind
   ·rename_i hne
    obtain⟨k0,e1,e2⟩:=jQ h3 hi
    grind
  have own:∀(i:Nat)(k3:aO)(x:Nat),(hp'.set b (some k1))[i]? =some (some k3)→(E.take b d tb).has i x→∃j k0,σ.hp[j]? =some (some k0)∧E.has j x∧((i=b∧(j=b∨j=d))∨(i≠b∧i≠d∧j=i)):=by
   intro i k3 x hi hx
   rcases src i k3 hi with⟨e,_⟩|⟨e0,e1,k0,e3,_⟩
   ·subst e
    rcases Env.D2 hx with h|⟨_,h⟩<;>grind
   ·rcases Env.D2 hx with h|⟨e,_⟩<;>grind
  refine⟨⟨?_,?_,⟨?_,?_,?_,hg.hw.slt,hg.hw.gl,?_⟩,am8.RD h4 hg.df⟩,⟨rfl,Tp.r rfl rfl,rfl,dP _,fun _ _ _=>rfl,fun _ h=>h,fun _ h=>Or.inl h,?_,fun i hi=>⟨rfl,rfl,by simp[Env.take];grind⟩⟩⟩
  ·simp only[jO];exact hg.len
  ·intro i y hy u hu
   rcases jP hy with e|⟨x,e1,e2,e3⟩
   ·subst e;trivial
   ·exact RV.eS (am8.RV e3 (RV.jq e2 (hg.tm i x e1 u hu)))
  ·intro i k3 hi
   rcases src i k3 hi with⟨e,e'⟩|⟨e0,e1,k0,e3,e4⟩
   ·grind
   ·exact am8.RB (fun _ h=>h) (b:=i) (b':=i) rfl rfl (by simp[Env.take,e1]) (fun _ x hx=>Or.inl hx) e4 (hg.hw.cQ i k0 e3)
  ·intro i j k3 k4 x hi hj g1 g2
   obtain⟨i',k5,f1,f2,f3⟩:=own i k3 x hi g1
   obtain⟨j',k6,f4,f5,f6⟩:=own j k4 x hj g2
   have e:=hg.hw.ew i' j' k5 k6 x f1 f4 f2 f5
   grind
  ·intro i k3 x hi hx
   obtain⟨j,k0,f1,f2,_⟩:=own i k3 x hi hx
   exact hg.hw.dC j k0 x f1 f2
  ·intro i k3 x hi hx
   obtain⟨j,k0,f1,f2,_⟩:=own i k3 x hi (Or.inr hx)
   exact hg.hw.below f1 f2
  ·rintro x ⟨i,k3,hi,hx⟩
   obtain⟨j,k0,f1,f2,_⟩:=own i k3 x hi hx
   exact Or.inl ⟨j,k0,f1,f2⟩
 grind
def MQ(b i d:Nat)(σ:St):Option St:=
 match eD σ.hp b with
 |some (.cT e bs (.slice bs2 t2) xs e2 none)=>if rf b&&σ.fA d&& !Nat.beq b d then(match St.gj (mn b d) {σ with hp:=σ.hp.set b none} with
  |some σ1=>some {σ1 with hp:=(σ1.hp.set b (some (.cT e bs (.slice bs2 t2) xs e2 (some (i,.own d))))).set d (some (.row e2 bs2 t2 (List.getD xs i [])))}
  |none=>none) else none
 |_=>none
theorem cZ.MR{e:TypeId}{t:Ty}{v:Value}{xs:List t.den}(h:cZ w S e (.slice bs t) v og xs):S7 w S e bs t v og xs:=h
theorem Wk.MQ{gl:Ctx}{b i d:Nat}(h:Ax.MQ b i d σ=some σ')(hi:∀e bs t xs e2 f,eD σ.hp b=some (.cT e bs t xs e2 f)→i<xs.length):Wk gl σ σ':=by
 intro E a w hg
 unfold Ax.MQ at h
 split at h
 ·rename_i e bs bs2 t2 xs e2 hb0
  have hb:=bR σ.hp b _ hb0
  have hi:=hi _ _ _ _ _ _ hb0
  split at h
  ·rename_i hc
   simp only[bj] at hc
   obtain⟨⟨h16,hfr⟩,hbd⟩:=hc
   have hbd:b≠d:=fun e=>by simp_all
   split at h
   ·rename_i σ1 hm
    cases h
    obtain⟨h1,h2,h3,h4,h5,g,cap,c,og,q1,q2,q3,q4,q5,q6,q7,q8⟩:=hg.hw.cQ b _ hb
    have hxi:xs[i]? =some (List.getD xs i []):=by grind
    obtain⟨u,r1,_,r3⟩:=q8 i _ hxi
    obtain⟨s1,s2,s3,av,cv,s4,s5,s6⟩:=(r3 (fun v hv=>by cases hv)).MR
    refine⟨_,hg.pull (og:=og i) (v:=u) (td:=.arr (List.length (List.getD xs i [])) t2) (tb:=mP i xs.length (.slice bs2 t2)) hb (iU h16) hbd (St.dR hfr) ?_ hm ?_ ?_⟩
    ·intro x hx
     exact⟨(q7.own i x hx).1,fun e=>by rw[q3] at e;cases e;exact(q7.own i _ hx).2 rfl⟩
    ·refine⟨by simp[Env.pull,hbd,wg],h2,h3,h4,fun i' v' hv'=>by cases hv';trivial,g,cap,c,fun j=>if j=i then none else og j,by simp[Env.pull,hbd];exact q1,q2,by simp[Env.pull,hbd];exact q3,q4,q5,q6,⟨?_,?_⟩,?_⟩
     ·intro j x hx
      have hx:(if j=i then none else og j)=some x:=hx
      split at hx
      ·cases hx
      ·rename_i hne
       obtain⟨k1,k2⟩:=q7.own j x hx
       exact⟨⟨hbd,k1,fun _ ho=>hne (q7.inj j i x hx ho)⟩,k2⟩
     ·intro j j' x hx hx'
      have hx:(if j=i then none else og j)=some x:=hx
      have hx':(if j'=i then none else og j')=some x:=hx'
      split at hx
      ·cases hx
      ·split at hx'
       ·cases hx'
       ·exact q7.inj j j' x hx hx'
     ·intro j x hx
      obtain⟨z,p1,p2,p3⟩:=q8 j x hx
      refine⟨z,p1,fun v' hv'=>?_,fun hv'=>?_⟩
      ·cases hv'
       rw[r1] at p1;cases p1
       refine⟨aA rfl,by show[u]= [(if d=d then u else E.sv d)];grind,av,List.length (List.getD xs i []),cv,?_⟩
       show(if d=d then u else E.sv d)=_
       grind
      ·have hne:j≠i:=fun e=>by grind
       simp only[hne,dB]
       exact cZ.mono (fun _ _=>rfl) (fun _ h=>h) (fun _ _=>rfl) (p3 (fun v hv=>by cases hv))
    ·refine⟨by simp[Env.pull],s1,s2,s3,av,cv,by simp[Env.pull];exact s4,s5,?_⟩
     grind [Env.pull]
   grind
  grind
 grind
def rj(b:Nat)(σ:St):Option St:=
 match eD σ.hp b with
 |
  some (.cT e bs (.slice bs2 t2) xs e2 (some (i,.own d)))=>match eD σ.hp d with
  |some (.row e3 bs3 t3 ys)=>if hc:Ty.same t3 t2=true then(if Nat.beq e3 e2&&Nat.beq bs3 bs2&&rf b&& !Nat.beq b d then(match St.gj (iA b) {σ with hp:=(σ.hp.set b none).set d none} with
   |some σ1=>some {σ1 with hp:=σ1.hp.set b (some (.cT e bs (.slice bs2 t2) (List.set xs i (Ty.aB hc▸ys)) e2 none))}
   |none=>none) else none) else none
  |_=>none
 |_=>none
theorem Wk.rj{gl:Ctx}{b:Nat}(h:Ax.rj b σ=some σ'):Wk gl σ σ':=by
 intro E a w hg
 unfold Ax.rj at h
 split at h
 ·rename_i e bs bs2 t2 xs e2 i d hb0
  have hb:=bR σ.hp b _ hb0
  split at h
  ·rename_i e3 bs3 t3 ys hd0
   have hd:=bR σ.hp d _ hd0
   split at h
   ·rename_i hc
    have et:=Ty.aB hc
    subst et
    split at h
    ·rename_i hc2
     simp only[bj] at hc2
     obtain⟨⟨⟨c1,c2⟩,h16⟩,hbd⟩:=hc2
     have e1:=bM c1;have e2':=bM c2
     subst e1;subst e2'
     have hbd:b≠d:=fun e=>by grind
     split at h
     ·rename_i σ1 hm
      cases h
      obtain⟨h1,h2,h3,h4,h5,g,cap,c,og,q1,q2,q3,q4,q5,q6,q7,q8⟩:=hg.hw.cQ b _ hb
      obtain⟨s0,s1,s2,s3,av,cv,s4,s5,s6⟩:=hg.hw.cQ d _ hd
      obtain⟨hi,_⟩:=h5 i _ rfl
      refine⟨_,hg.take (tb:=.arr xs.length (.slice bs3 t3)) hb (iU h16) hbd hd hm ?_⟩
      refine⟨by simp[Env.take,wg],h2,by grind,by grind,fun i' v' hv'=>(by cases hv'),g,cap,c,fun j=>if j=i then E.g d else og j,by rw[jj];exact q1,q2,q3,q4,q5,by grind,⟨?_,?_⟩,?_⟩
      ·intro j x hx
       have hx:(if j=i then E.g d else og j)=some x:=hx
       split at hx
       ·refine⟨Or.inr ⟨rfl,Or.inl hx⟩,fun e=>?_⟩
        subst e
        exact hbd (hg.hw.sep b d _ _ x hb hd q3 hx)
       ·exact⟨Or.inl (q7.own j x hx).1,(q7.own j x hx).2⟩
      ·intro j j' x hx hx'
       have hx:(if j=i then E.g d else og j)=some x:=hx
       have hx':(if j'=i then E.g d else og j')=some x:=hx'
       split at hx<;>split at hx'
       ·grind
       ·exact absurd (hg.hw.ew b d _ _ x hb hd (Or.inr (q7.own j' x hx').1) (Or.inl hx)) hbd
       ·exact absurd (hg.hw.ew b d _ _ x hb hd (Or.inr (q7.own j x hx).1) (Or.inl hx')) hbd
       ·exact q7.inj j j' x hx hx'
      ·intro j x hx
       rw[dv] at hx
       by_cases e:i=j
       ·subst e
        rw[aA rfl,aA hi] at hx
        cases hx
        obtain⟨z,p1,p2,p3⟩:=q8 i (xs.getD i []) (by grind)
        obtain⟨_,p2,_⟩:=p2 _ rfl
        have ez:z=E.sv d:=by grind
        refine⟨z,p1,fun v hv=>(by cases hv),fun _=>?_⟩
        simp only[cj]
        refine⟨s1,s2,s3,av,cv,by grind,s5,?_⟩
        trivial
       ·rw[aC e] at hx
        obtain⟨z,p1,p2,p3⟩:=q8 j x hx
        refine⟨z,p1,fun v hv=>(by cases hv),fun _=>?_⟩
        have e':j≠i:=fun e'=>e e'.symm
        simp only[e',dB]
        exact p3 (fun v hv=>by grind)
     grind
    grind
   grind
  grind
 grind
def Env.xj(E:Env)(b:Nat)(R:Nat→Prop):Env:=
 {E with S:=fun g=>E.S g∨R g,P:=fun c x=>c≠b∧E.P c x}
theorem Env.np{b:Nat}{R:Nat→Prop}{c x:Nat}(h:(E.xj b R).has c x):E.has c x:=h.imp id (fun k=>k.2)
theorem bQ.xj{gl:Ctx}{a:Act}(hg:bQ gl σ E a w){b:Nat}{k:aO}{R:Nat→Prop}(hb:σ.hp[b]? =some (some k))(hR:∀x,R x→E.P b x∧E.g b≠some x)(hk:RB (E.xj b R) w b k'):
 bQ gl {σ with hp:=σ.hp.set b (some k')} (E.xj b R) a w∧Ext gl.md (bx σ.hp E) E w (bx (σ.hp.set b (some k')) (E.xj b R)) (E.xj b R) w:=by
 have kp:bE E w (E.xj b R) w:=⟨fun _ _=>rfl,fun _ h=>Or.inl h⟩
 have src:∀(i:Nat)(k3:aO),(σ.hp.set b (some k'))[i]? =some (some k3)→(i=b∧k'=k3)∨(i≠b∧σ.hp[i]? =some (some k3)):=by
  grind
 have any:∀(i:Nat)(k3:aO),(σ.hp.set b (some k'))[i]? =some (some k3)→∃k0,σ.hp[i]? =some (some k0):=by
  grind
 refine⟨hg.carry kp (fun _ _=>⟨rfl,rfl,rfl⟩) ⟨?_,?_,?_,?_,hg.hw.gJ kp,?_⟩,⟨rfl,Tp.r rfl rfl,rfl,dP _,fun _ _ _=>rfl,fun _ h=>Or.inl h,?_,?_,fun _ _=>⟨rfl,rfl,rfl⟩⟩⟩
 ·intro i k3 hi
  rcases src i k3 hi with⟨e,e'⟩|⟨e,e'⟩
  ·grind
  ·exact RB.mono kp (fun _ _=>⟨rfl,rfl,rfl⟩) (fun _ _=>rfl) (fun _ x hx=>⟨e,hx⟩) (hg.hw.cQ i k3 e')
 ·intro i j k3 k4 x hi hj g1 g2
  obtain⟨k5,f1⟩:=any i k3 hi
  obtain⟨k6,f2⟩:=any j k4 hj
  exact hg.hw.ew i j k5 k6 x f1 f2 (Env.np g1) (Env.np g2)
 ·intro i k3 x hi hx hs
  obtain⟨k5,f1⟩:=any i k3 hi
  rcases hs with hs|hs
  ·exact hg.hw.dC i k5 x f1 (Env.np hx) hs
  ·obtain⟨r1,r2⟩:=hR x hs
   have e:=hg.hw.ew b i k k5 x hb f1 (Or.inr r1) (Env.np hx)
   subst e
   rcases hx with hx|hx
   ·trivial
   ·exact hx.1 rfl
 ·rintro x (hs|hs)
  ·exact hg.hw.slt x hs
  ·exact hg.hw.uu b k x hb (hR x hs).1
 ·intro i k3 x hi hx
  obtain⟨k5,f1⟩:=any i k3 hi
  exact hg.hw.uu i k5 x f1 hx.2
 ·rintro x (hs|hs)
  ·grind
  ·exact Or.inr (Or.inl ⟨b,k,hb,Or.inr (hR x hs).1⟩)
 ·rintro x ⟨i,k3,hi,hx⟩
  obtain⟨k5,f1⟩:=any i k3 hi
  exact Or.inl ⟨i,k5,f1,Env.np hx⟩
theorem cZ.rel{S':Nat→Prop}{e:TypeId}(hS:∀b,S b→S' b){t:Ty}{v:Value}{x:t.den}(hg:∀g,og=some g→S' g)(h:cZ w S e t v og x):Rel w S' t [v] x:=by
 cases t with
 |
  slice bs t=>
  obtain⟨h1,h2,h3,a,cap,h4,h5,h6⟩:=h
  subst h4
  rcases h6 with⟨⟨k1,k2⟩,k3,k4⟩|⟨g,c,k1,k2,k3,k4,k5,k6⟩
  ·subst k4;exact⟨a,cap,rfl,gY _,h1,h2,Or.inl rfl⟩
  ·refine⟨a,cap,rfl,k5,h1,h2,Or.inr ⟨g,0,_,k2,hg g k1,?_,bk.mono (fun _ _=>Rel.mono (fun _ _=>rfl) hS) k6⟩⟩
   have:=qf.of_heap k3 0 (List.length x*t.size)
   grind
 |
  map k u=>
  obtain⟨es,h0,h1,h2,g,en,clock,h3,h4,h5,h6,h7,h8⟩:=h
  subst h0;subst h4
  exact⟨some g,rfl,Or.inr ⟨es,g,en,clock,rfl,rfl,hg g h3,h5,jY.mono (fun _ _=>ir.mono (fun _ _=>Rel.mono (fun _ _=>rfl) hS)) (fun _ _=>ir.mono (fun _ _=>Rel.mono (fun _ _=>rfl) hS)) h6,h1,h2,h7,h8⟩⟩
 |_=>trivial
def MT(b:Nat)(σ:St):Option St:=
 match eD σ.hp b with
 |some (.cT e bs t xs _ none)=>some {σ with hp:=σ.hp.set b (some (.row e bs t xs))}
 |some (.pmap k t es _ none)=>if t.isAgg then none else some {σ with hp:=σ.hp.set b (some (.map k t es))}
 |_=>none
theorem bk.at{r:List Value→α→Prop}:∀{xs:List α}{cs:List Value},cs.length=xs.length→(∀(i:Nat)(x:α),xs[i]? =some x→∃u,cs[i]? =some u∧r [u] x)→bk r cs xs
 |[],cs,hl,_=>List.eq_nil_of_length_eq_zero hl
 |x::xs,[],hl,_=>by simp at hl
 |
  x::xs,c::cs,hl,h=>by
  obtain⟨u,h1,h2⟩:=h 0 x rfl
  simp at h1;subst h1
  exact⟨[c],cs,rfl,h2,bk.at (by simpa using hl) (fun i y hy=>by simpa using h (i+1) y (by simpa using hy))⟩
theorem RM.at{k v:Ty}:∀{es:List (k.den×v.den)}{en:List MapEntry},en.length=es.length→(∀(i:Nat) x,es[i]? =some x→∃m,en[i]? =some m∧bZ E w (.val k x.1) m.key∧bZ E w (.val v x.2) m.val)→RM E w k v en es
 |[],[],_,_=>trivial
 |[],_::_,hl,_=>by simp at hl
 |_::_,[],hl,_=>by simp at hl
 |
  x::es,m::en,hl,h=>by
  obtain⟨u,h1,h2,h3⟩:=h 0 x rfl
  simp at h1;subst h1
  exact⟨h2,h3,RM.at (by simpa using hl) (fun i y hy=>by simpa using h (i+1) y (by simpa using hy))⟩
theorem Wk.MT{gl:Ctx}{b:Nat}(h:Ax.MT b σ=some σ'):Wk gl σ σ':=by
 intro E a w hg
 unfold Ax.MT at h
 split at h
 ·rename_i e bs t xs e2 hb0
  have hb:=bR σ.hp b _ hb0
  cases h
  obtain⟨h1,h2,h3,h4,h5,g,cap,c,og,q1,q2,q3,q4,q5,q6,q7,q8⟩:=hg.hw.cQ b _ hb
  obtain⟨r1,r2⟩:=hg.xj (k':=.row e bs t xs) (R:=fun x=>∃i,og i=some x) hb (fun x ⟨i,hi⟩=>⟨(q7.own i x hi).1,fun e=>by rw[q3] at e;cases e;exact(q7.own i _ hi).2 rfl⟩) (by
   refine⟨h1,h3,h4,by omega,some ⟨g,0,none⟩,cap,q1,q2,Or.inr ⟨g,c,q3,rfl,q4,by grind,q6,?_⟩⟩
   rw[h2,Nat.mul_one]
   refine bk.at (by grind) (fun i x hx=>?_)
   have hi:=(List.getElem?_eq_some_iff.1 hx).1
   obtain⟨u,p1,_,p3⟩:=q8 i x hx
   refine⟨u,by grind,?_⟩
   exact cZ.rel (fun b hb=>Or.inl hb) (fun x hx=>Or.inr ⟨i,hx⟩) (p3 (fun v hv=>by cases hv)))
  grind
 ·rename_i k t es e2 hb0
  have hb:=bR σ.hp b _ hb0
  split at h
  ·cases h
  ·rename_i amH
   cases h
   obtain⟨h1,h2,h3,g,en,clock,og,q1,q2,q3,q4,q5,q6,q7,q8⟩:=hg.hw.cQ b _ hb
   have kp:bE E w (E.xj b fun x=>∃i,og i=some x) w:=⟨fun _ _=>rfl,fun _ h=>Or.inl h⟩
   obtain⟨r1,r2⟩:=hg.xj (k':=.map k t es) (R:=fun x=>∃i,og i=some x) hb (fun x ⟨i,hi⟩=>⟨(q5.own i x hi).1,fun e=>by rw[q1] at e;cases e;exact(q5.own i _ hi).2 rfl⟩) (by
    refine⟨h1,h2,g,en,clock,q1,q2,RM.at (by grind) (fun i x hx=>?_),q3,q4⟩
    obtain⟨m,p1,p2,_,p4⟩:=q7 i x hx
    refine⟨m,by grind,bZ.mono kp (fun _ hb=>by cases hb) p2,Or.inr ⟨by simpa[AV.isAgg] using amH,?_⟩⟩
    exact cZ.rel (fun b hb=>Or.inl hb) (fun x hx=>Or.inr ⟨i,hx⟩) (p4 (fun v pr hv=>by cases hv)))
   grind
 grind
def N4(b:Nat)(e2:TypeId)(σ:St):Option St:=
 match eD σ.hp b with
 |some (.map k t [])=>some {σ with hp:=σ.hp.set b (some (.pmap k t [] e2 none))}
 |_=>none
variable{e2:TypeId}
theorem Wk.N4{gl:Ctx}{b:Nat}(h:Ax.N4 b e2 σ=some σ'):Wk gl σ σ':=by
 intro E a w hg
 unfold Ax.N4 at h
 split at h
 ·rename_i k t hb0
  have hb:=bR σ.hp b _ hb0
  cases h
  obtain⟨h1,h2,g,en,clock,q1,q2,q3,q4,q5⟩:=hg.hw.cQ b _ hb
  obtain⟨r1,r2⟩:=hg.xj (k':=.pmap k t [] e2 none) (R:=fun _=>False) hb (fun x hx=>hx.elim) (by
   have hn:en.toList= []:=by
    cases he:en.toList with
    |nil=>rfl
    |cons _ _=>rw[he] at q3;trivial
   have hs:en.size=0:=by simp_all
   exact⟨h1,h2,fun kx v pr hv=>(by cases hv),g,en,clock,fun _=>none,q1,q2,q4,q5,⟨fun i u hu=>(by cases hu),fun i j u hu=>(by cases hu)⟩,hs,fun i x hx=>by grind,fun kx v=>⟨fun hf=>(by cases hf),fun hf=>(by cases hf)⟩⟩)
  grind
 grind
variable{vt:Ty}
theorem rm(hk:kt.keyed=true){k:kt.den}:∀{es:List (kt.den×vt.den)},bT kt k es=true→∃i:Nat,es[i]? =some (k,aP kt vt k es)
 |[],h=>by trivial
 |
  x::es,h=>by
  simp only[bT,fK] at h
  cases hb:bl kt k x.1 with
  |true=>exact⟨0,by simp_all[aP,bO]⟩
  |
   false=>
   rw[hb] at h
   obtain⟨i,hi⟩:=rm hk (h.resolve_left (by simp))
   exact⟨i+1,by grind [aP]⟩
theorem A4{k:kt.den}:∀{es:List (kt.den×vt.den)},bT kt k es=false→aP kt vt k es=vt.aD
 |[],_=>rfl
 |
  x::es,h=>by
  simp only[bT,Bool.or_eq_false_iff] at h
  simp only[aP,h.1,eM,dB]
  exact A4 h.2
variable{kx:kt.den}
theorem zD{b d:Nat}{t:Ty}{es:List (kt.den×t.den)}(hrb:RB E w b (.pmap kt t es e2 none))(hbd:b≠d){y:t.den}{i:Nat}(hi:es[i]? =some (kx,y)):
 ∃u og,cZ w E.S e2 t u og y∧(∀x,og=some x→E.P b x∧E.g b≠some x)∧
  ∀v pr td tb,v.cp t=true→RC (E.pull b d og u td tb) w v [u]→RB (E.pull b d og u td tb) w b (.pmap kt t es e2 (some (kx,v,pr))):=by
 obtain⟨z1,z2,z3,g,en,clock,og,y1,y2,y3,y4,y5,y6,y7,y8⟩:=hrb
 obtain⟨m,t1,t2,_,t4⟩:=y7 i _ hi
 refine⟨m.val,og i,t4 (fun v pr hv=>by cases hv),fun x hx=>⟨(y5.own i x hx).1,fun e=>by rw[y1] at e;cases e;exact(y5.own i _ hx).2 rfl⟩,?_⟩
 intro v pr td tb hc hr
 have kp:bE E w (E.pull b d (og i) m.val td tb) w:=⟨fun _ _=>rfl,fun _ h=>h⟩
 refine⟨z1,z2,fun kx' v' pr' hv'=>by grind,g,en,clock,fun j=>if j=i then none else og j,by simp[Env.pull,hbd];exact y1,y2,y3,y4,⟨?_,?_⟩,y6,?_,?_⟩
 ·intro j x hx
  have hx:(if j=i then none else og j)=some x:=hx
  split at hx
  ·cases hx
  ·rename_i hne
   obtain⟨k1,k2⟩:=y5.own j x hx
   exact⟨⟨hbd,k1,fun _ ho=>hne (y5.inj j i x hx ho)⟩,k2⟩
 ·intro j j' x hx hx'
  have hx:(if j=i then none else og j)=some x:=hx
  have hx':(if j'=i then none else og j')=some x:=hx'
  split at hx
  ·cases hx
  ·split at hx'
   ·cases hx'
   ·exact y5.inj j j' x hx hx'
 ·intro j x hx
  obtain⟨m2,p1,p2,_,p4⟩:=y7 j x hx
  refine⟨m2,p1,bZ.mono kp (fun _ hb=>by cases hb) p2,fun v' pr' hv'=>?_,fun hv'=>?_⟩
  ·obtain⟨xk,xv⟩:=x
   simp only[cX,iv] at hv'
   obtain⟨e1,e2,e3⟩:=hv'
   subst e1;subst e2
   have e:=xc z1 hi hx
   grind
  ·have hne:j≠i:=fun e=>by
    grind
   simp only[hne,dB]
   exact cZ.mono (fun _ _=>rfl) (fun _ h=>h) (fun _ _=>rfl) (p4 (fun v pr hv=>by cases hv))
 grind
theorem F6{b d:Nat}{t:Ty}{es:List (kt.den×t.den)}(hrb:RB E w b (.pmap kt t es e2 none))(hbd:b≠d)(hn:kx∉es.map (·.1)){v:AV}{u:Value}(hc:v.cp t=true)(hr:RC (E.pull b d none u td tb) w v [zeroV t]):
 RB (E.pull b d none u td tb) w b (.pmap kt t es e2 (some (kx,v,false))):=by
 obtain⟨z1,z2,z3,g,en,clock,og,y1,y2,y3,y4,y5,y6,y7,y8⟩:=hrb
 have kp:bE E w (E.pull b d none u td tb) w:=⟨fun _ _=>rfl,fun _ h=>h⟩
 refine⟨z1,z2,fun kx' v' pr' hv'=>by grind,g,en,clock,og,by simp[Env.pull,hbd];exact y1,y2,y3,y4,y5.mono (fun x hx=>⟨hbd,hx,fun _=>by simp⟩),y6,?_,?_⟩
 ·intro j x hx
  obtain⟨m2,p1,p2,_,p4⟩:=y7 j x hx
  refine⟨m2,p1,bZ.mono kp (fun _ hb=>by cases hb) p2,fun v' pr' hv'=>?_,fun hv'=>cZ.mono (fun _ _=>rfl) (fun _ h=>h) (fun _ _=>rfl) (p4 (fun v pr hv=>by cases hv))⟩<;>grind
 grind
theorem zG{b d:Nat}{t:Ty}(hk:kt.keyed=true){es:List (kt.den×t.den)}{v:AV}(hrb:RB E w b (.pmap kt t es e2 (some (kx,v,true)))){y:t.den}(am0:∀u,RC E w v [u]→cZ w E.S e2 t u (E.g d) y)
 (hsep:∀x,E.has b x→¬E.has d x):RB (E.take b d tb) w b (.pmap kt t (aZ kt kx y es) e2 none):=by
 obtain⟨z1,z2,z3,g,en,clock,og,y1,y2,y3,y4,y5,y6,y7,y8⟩:=hrb
 have hin:=(y8 kx v).2 rfl
 obtain⟨⟨kx',y0⟩,hm,e⟩:=List.mem_map.1 hin
 have e:kx'=kx:=e
 subst e
 obtain⟨i,hi⟩:=List.mem_iff_getElem?.1 hm
 have hlt:i<es.length:=(List.getElem?_eq_some_iff.1 hi).1
 have hes:=qU hk (y:=y) z1 hi
 have kp:bE E w (E.take b d tb) w:=⟨fun _ _=>rfl,fun _ h=>h⟩
 refine⟨cU hk z1,by grind,fun kx' v' pr' hv'=>(by cases hv'),g,en,clock,fun j=>if j=i then E.g d else og j,y1,y2,y3,y4,⟨?_,?_⟩,by grind,?_,fun kx' v'=>⟨fun hf=>(by cases hf),fun hf=>(by cases hf)⟩⟩
 ·intro j x hx
  have hx:(if j=i then E.g d else og j)=some x:=hx
  split at hx
  ·exact⟨Or.inr ⟨rfl,Or.inl hx⟩,fun e=>by subst e;exact hsep x (Or.inl y1) (Or.inl hx)⟩
  ·exact⟨Or.inl (y5.own j x hx).1,(y5.own j x hx).2⟩
 ·intro j j' x hx hx'
  have hx:(if j=i then E.g d else og j)=some x:=hx
  have hx':(if j'=i then E.g d else og j')=some x:=hx'
  split at hx<;>split at hx'
  ·grind
  ·exact absurd (Or.inl hx) (hsep x (Or.inr (y5.own j' x hx').1))
  ·exact absurd (Or.inl hx') (hsep x (Or.inr (y5.own j x hx).1))
  ·exact y5.inj j j' x hx hx'
 ·rw[hes]
  intro j x hx
  rw[dv] at hx
  by_cases hne:i=j
  ·subst hne
   rw[aA rfl,aA hlt] at hx
   cases hx
   obtain⟨m,p1,p2,p3,_⟩:=y7 i _ hi
   refine⟨m,p1,bZ.mono kp (fun _ hb=>by cases hb) p2,fun v' pr' hv'=>(by cases hv'),fun _=>?_⟩
   simp only[cj]
   exact am0 _ (p3 v true rfl).2
  ·rw[aC hne] at hx
   obtain⟨m,p1,p2,p3,p4⟩:=y7 j x hx
   have hxk:x.1≠kx':=fun e=>by
    grind [xc]
   have hne':j≠i:=fun e=>hne e.symm
   refine⟨m,p1,bZ.mono kp (fun _ hb=>by cases hb) p2,fun v' pr' hv'=>(by cases hv'),fun _=>?_⟩
   simp only[hne',dB]
   exact p4 (fun v' pr' hv'=>by grind)
def MU(mode b d:Nat)(kt:Ty)(kx:kt.den)(σ:St):Option (List VC×St):=
 match mode,eD σ.hp b with
 |0,some (.pmap k u es e2 none)=>if h:Ty.same k kt=true then(if k.keyed&&rf b&&u.yk&&AV.cp .dX u then some ([vc (bT k (Ty.aB h▸kx:k.den) es=false)],{σ with hp:=σ.hp.set b (some (.pmap k u es e2 (some ((Ty.aB h▸kx:k.den),.dX,false))))}) else none) else none
 |1,some (.pmap k (.map k2 v2) es e2 none)=>if h:Ty.same k kt=true then(if k.keyed&&rf b&&σ.fA d&& !Nat.beq b d then(match St.gj (mn b d) {σ with hp:=σ.hp.set b none} with
  |some σ1=>some ([vc (bT k (Ty.aB h▸kx:k.den) es=true)],{σ1 with hp:=(σ1.hp.set b (some (.pmap k (.map k2 v2) es e2 (some ((Ty.aB h▸kx:k.den),.mp d,true))))).set d (some (.map k2 v2 (aX (aP k (.map k2 v2) (Ty.aB h▸kx:k.den) es))))})
  |none=>none) else none) else none
 |2,some (.pmap k (.slice bs t2) es e2 none)=>if h:Ty.same k kt=true then(if k.keyed&&rf b&&σ.fA d&& !Nat.beq b d&&Nat.blt 0 t2.size then(match St.gj (mn b d) {σ with hp:=σ.hp.set b none} with
  |some σ1=>some ([],{σ1 with hp:=(σ1.hp.set b (some (.pmap k (.slice bs t2) es e2 (some ((Ty.aB h▸kx:k.den),.own d,false))))).set d (some (.row e2 bs t2 (aP k (.slice bs t2) (Ty.aB h▸kx:k.den) es)))})
  |none=>none) else none) else none
 |_,_=>none
theorem RB.UG{d:Nat}{e:TypeId}{t:Ty}(hp:0<t.size)(h1:E.bt d= .arr 0 t)(h2:E.sv d= .slice none 0 0)(h3:E.g d=none):RB E w d (.row e bs t []):=
 ⟨h1,by simp,by simp,hp,none,0,h2,gY _,Or.inl ⟨⟨rfl,rfl⟩,h3,rfl⟩⟩
theorem Wk.MU{gl:Ctx}{mode b d:Nat}{vcs:List VC}(h:Ax.MU mode b d kt kx σ=some (vcs,σ'))(hvc:dD vcs):Wk gl σ σ':=by
 intro E a w hg
 unfold Ax.MU at h
 split at h
 ·rename_i k u es e2 hb0
  have hb:=bR σ.hp b _ hb0
  split at h
  ·rename_i hs
   have et:=Ty.aB hs
   subst et
   split at h
   ·rename_i hc
    cases h
    simp only[bj] at hc
    obtain⟨⟨⟨hk,h16⟩,hm⟩,hcf⟩:=hc
    have hn:bT k kx es=false:=hvc.1
    have hn':kx∉es.map (·.1):=fun hm=>by rw[(di hk).2 hm] at hn;cases hn
    obtain⟨z1,z2,z3,g,en,clock,og,y1,y2,y3,y4,y5,y6,y7,y8⟩:=hg.hw.cQ b _ hb
    have hw:=hg.hw.write (w':=w) (k':=.pmap k u es e2 (some (kx,.dX,false))) hb rfl (fun _ _=>rfl) (by
     refine⟨z1,z2,fun kx' v' pr' hv'=>by grind,g,en,clock,og,y1,y2,y3,y4,y5,y6,?_,?_⟩
     ·grind
     ·intro kx' v'
      refine⟨fun hf _=>?_,fun hf=>?_⟩<;>cases hf
      rw[zr hm];rfl)
    exact⟨E,hg.carry ⟨fun _ _=>rfl,fun _ h=>h⟩ (fun _ _=>⟨rfl,rfl,rfl⟩) hw,{Ext.refl (md:=gl.md) (bx σ.hp E) E w with own:=fun g hg'=>Or.inl (bx.set hb hg')}⟩
   grind
  grind
 ·rename_i k k2 v2 es e2 hb0
  have hb:=bR σ.hp b _ hb0
  split at h
  ·rename_i hs
   have et:=Ty.aB hs
   subst et
   split at h
   ·rename_i hc
    simp only[bj] at hc
    obtain⟨⟨⟨hk,h16⟩,hfr⟩,hbd⟩:=hc
    have hbd:b≠d:=fun e=>by simp_all
    split at h
    ·rename_i σ1 hm
     cases h
     have hn:bT k kx es=true:=hvc.1
     obtain⟨i,hi⟩:=rm (vt:=.map k2 v2) hk hn
     obtain⟨u,og,s1,s2,s3⟩:=zD (hg.hw.cQ b _ hb) hbd hi
     obtain⟨es',e0,m1,m2,g,en,clock,m3,m4,m5,m6,m7,m8⟩:=s1
     have ge:(E.pull b d og u .unit .unit).g d=some g:=by simp[Env.pull];exact m3
     refine⟨_,hg.pull (og:=og) (v:=u) (td:=.unit) (tb:=.unit) hb (iU h16) hbd (St.dR hfr) s2 hm (s3 (.mp d) true .unit .unit rfl ⟨g,ge,by rw[m4]⟩) ?_⟩
     rw[e0]
     exact⟨m1,m2,g,en,clock,ge,m5,RM.of (E:=E.pull b d og u .unit .unit) m6,m7,m8⟩
    grind
   grind
  grind
 ·rename_i k bs t2 es e2 hb0
  have hb:=bR σ.hp b _ hb0
  split at h
  ·rename_i hs
   have et:=Ty.aB hs
   subst et
   split at h
   ·rename_i hc
    simp only[bj] at hc
    obtain⟨⟨⟨⟨hk,h16⟩,hfr⟩,hbd⟩,hpos⟩:=hc
    have hbd:b≠d:=fun e=>by simp_all
    have hpos:0<t2.size:=by simp_all
    split at h
    ·rename_i σ1 hm
     cases h
     cases hn:bT k kx es with
     |
      true=>
      obtain⟨i,hi⟩:=rm (vt:=.slice bs t2) hk hn
      obtain⟨u,og,s1,s2,s3⟩:=zD (hg.hw.cQ b _ hb) hbd hi
      obtain⟨q1,q2,q3,av,cv,q4,q5,q6⟩:=s1.MR
      refine⟨_,hg.pull (og:=og) (v:=u) (td:=.arr (List.length (aP k (.slice bs t2) kx es)) t2) (tb:=.unit) hb (iU h16) hbd (St.dR hfr) s2 hm (s3 (.own d) false _ .unit rfl ⟨by simp[Env.pull],av,List.length (aP k (.slice bs t2) kx es),cv,by simp[Env.pull];exact q4⟩) ?_⟩
      refine⟨by simp[Env.pull],q1,q2,q3,av,cv,by simp[Env.pull];exact q4,q5,?_⟩
      grind [Env.pull]
     |
      false=>
      have hn':kx∉es.map (·.1):=fun hm=>by rw[(di hk).2 hm] at hn;cases hn
      have e0:aP k (.slice bs t2) kx es= []:=A4 hn
      rw[e0]
      refine⟨_,hg.pull (og:=none) (v:=.slice none 0 0) (td:=.arr 0 t2) (tb:=.unit) hb (iU h16) hbd (St.dR hfr) (fun x hx=>by cases hx) hm (F6 (hg.hw.cQ b _ hb) hbd hn' rfl ⟨by simp[Env.pull,zeroV],none,0,0,by simp[Env.pull]⟩) ?_⟩
      grind [RB.UG,Env.pull]
    grind
   grind
  grind
 grind
def nr(b:Nat)(σ:St):Option St:=
 match eD σ.hp b with
 |
  some (.pmap k (.slice bs2 t2) es e2 (some (kx,.own d,true)))=>match eD σ.hp d with
  |some (.row e3 bs3 t3 ys)=>if hc:Ty.same t3 t2=true then(if k.keyed&&Nat.beq e3 e2&&Nat.beq bs3 bs2&&rf b&& !Nat.beq b d then(match St.gj (iA b) {σ with hp:=(σ.hp.set b none).set d none} with
   |some σ1=>some {σ1 with hp:=σ1.hp.set b (some (.pmap k (.slice bs2 t2) (aZ k kx (Ty.aB hc▸ys:List t2.den) es) e2 none))}
   |none=>none) else none) else none
  |_=>none
 |
  some (.pmap k (.map k2 v2) es e2 (some (kx,.mp d,true)))=>match eD σ.hp d with
  |some (.map k3 v3 ys)=>if hc:Ty.same k3 k2=true∧Ty.same v3 v2=true then(if k.keyed&&rf b&& !Nat.beq b d then(match St.gj (iA b) {σ with hp:=(σ.hp.set b none).set d none} with
   |some σ1=>some {σ1 with hp:=σ1.hp.set b (some (.pmap k (.map k2 v2) (aZ k kx (some (Ty.aB hc.1▸Ty.aB hc.2▸ys:List (k2.den×v2.den))) es) e2 none))}
   |none=>none) else none) else none
  |_=>none
 |_=>none
theorem Wk.nr{gl:Ctx}{b:Nat}(h:Ax.nr b σ=some σ'):Wk gl σ σ':=by
 intro E a w hg
 unfold Ax.nr at h
 split at h
 ·rename_i k bs2 t2 es e2 kx d hb0
  have hb:=bR σ.hp b _ hb0
  split at h
  ·rename_i e3 bs3 t3 ys hd0
   have hd:=bR σ.hp d _ hd0
   split at h
   ·rename_i hc
    have et:=Ty.aB hc
    subst et
    split at h
    ·rename_i hc2
     simp only[bj] at hc2
     obtain⟨⟨⟨⟨hk,c1⟩,c2⟩,h16⟩,hbd⟩:=hc2
     have e1:=bM c1;have e2':=bM c2
     subst e1;subst e2'
     have hbd:b≠d:=fun e=>by grind
     split at h
     ·rename_i σ1 hm
      cases h
      refine⟨_,hg.take (tb:=.unit) hb (iU h16) hbd hd hm (zG hk (hg.hw.cQ b _ hb) ?_ (fun x h1 h2=>hbd (hg.hw.ew b d _ _ x hb hd h1 h2)))⟩
      intro u hu
      obtain⟨s0,s1,s2,s3,av,cv,s4,s5,s6⟩:=hg.hw.cQ d _ hd
      obtain⟨hu,_⟩:=hu
      have eu:u=E.sv d:=by grind
      refine⟨s1,s2,s3,av,cv,by rw[eu];exact s4,s5,?_⟩<;>grind
     grind
    grind
   grind
  grind
 ·rename_i k k2 v2 es e2 kx d hb0
  have hb:=bR σ.hp b _ hb0
  split at h
  ·rename_i k3 v3 ys hd0
   have hd:=bR σ.hp d _ hd0
   split at h
   ·rename_i hc
    obtain⟨hc1,hc2⟩:=hc
    have et:=Ty.aB hc1
    subst et
    have et2:=Ty.aB hc2
    subst et2
    split at h
    ·rename_i hc2
     simp only[bj] at hc2
     obtain⟨⟨hk,h16⟩,hbd⟩:=hc2
     have hbd:b≠d:=fun e=>by grind
     split at h
     ·rename_i σ1 hm
      cases h
      refine⟨_,hg.take (tb:=.unit) hb (iU h16) hbd hd hm (zG hk (hg.hw.cQ b _ hb) ?_ (fun x h1 h2=>hbd (hg.hw.ew b d _ _ x hb hd h1 h2)))⟩
      intro u hu
      obtain⟨s1,s2,g,en,clock,s3,s4,s5,s6,s7⟩:=hg.hw.cQ d _ hd
      obtain⟨g',hg',eu⟩:=hu
      rw[s3] at hg';cases hg'
      have eu:u= .map (some g):=by grind
      exact⟨ys,rfl,s1,s2,g,en,clock,s3,eu,s4,RM.to s5,s6,s7⟩
     grind
    grind
   grind
  grind
 grind
def Kq(b:Nat):AV→Bool
 | .own c| .ku c _ _| .eQ c=> !Nat.beq c b
 | .func _ fs cs=>Kq b fs&&Kq b cs&&fs.atoms&&cs.atoms
 | .iface _ v=>Kq b v
 | .cons a c=>Kq b a&&Kq b c
 | .bot| .fU _| .opt _ _=>false
 |_=>true
def nu(b:Nat)(x:AV):Option AV:=if Kq b x then some x else none
def Env.rs(E:Env)(b:Nat)(v:Value):Env:={E with sv:=fun c=>if c=b then v else E.sv c}
theorem Env.D3{b c:Nat}{v:Value}(h:c≠b):(E.rs b v).sv c=E.sv c:=by simp[Env.rs,h]
theorem MV{b:Nat}{u:Value}:∀{x:AV}{vs:List Value},Kq b x=true→RC E w x vs→RC (E.rs b u) w x vs:=by
 intro x
 have ne:∀{c:Nat},(!Nat.beq c b)=true→c≠b:=fun h e=>by simp_all
 induction x with
 |ku c lo len=>intro vs h hr;simp only[RC];rw[Env.D3 (ne h)];exact hr
 |own c=>intro vs h hr;simp only[RC];rw[Env.D3 (ne h)];exact hr
 |eQ c=>intro vs h hr;simp only[RC];rw[Env.D3 (ne h)];exact hr
 |
  func fn fs cs ih1 ih2=>
  intro vs h hr
  simp only[Kq,bj] at h
  obtain⟨f,c,e,h1,h2,h3,h4⟩:=hr
  exact⟨f,c,e,ih1 h.1.1.1 h1,ih2 h.1.1.2 h2,h3,h4⟩
 |
  iface t v ih=>
  intro vs h hr
  obtain⟨x,e,hr⟩:=hr
  refine⟨x,e,?_⟩
  rcases hr with⟨h1,cs,e2,h3⟩|⟨h1,h3⟩
  ·exact Or.inl ⟨h1,cs,e2,ih h h3⟩
  ·exact Or.inr ⟨h1,ih h h3⟩
 |
  cons a c ih1 ih2=>
  intro vs h hr
  simp only[Kq,bj] at h
  obtain⟨v1,v2,e,h1,h2⟩:=hr
  exact⟨v1,v2,e,ih1 h.1 h1,ih2 h.2 h2⟩
 |iy v=>intro vs h hr;exact RC.mono (E:=E) (E':=E.rs b u) (w:=w) (w':=w) (a:=.iy v) ⟨fun _ _=>rfl,fun _ h=>h⟩ (fun c hc=>by cases hc) hr
 |bot=>intro vs h;trivial
 |fU l=>intro vs h;trivial
 |opt c v=>intro vs h;trivial
 |_=>intro vs h hr;exact hr
theorem UH{b:Nat}{v:Value}:Good E (E.rs b v) w (nu b) where
 rc:=by
  grind [nu,MV]
 agg:=by
  grind [nu]
 mp:=by
  intro c y h
  unfold nu at h
  split at h
  ·cases h;rfl
  grind
 fn:=by
  intro fn fs cs y h
  unfold nu at h
  split at h
  ·rename_i hn
   cases h
   simp only[Kq,bj] at hn
   exact⟨fs,cs,rfl,by unfold nu;grind,by unfold nu;grind,hn.1.2,hn.2⟩
  grind
theorem bQ.rs{gl:Ctx}{a:Act}(hg:bQ gl σ E a w){b:Nat}{k:aO}{ty:Value}(hb:σ.hp[b]? =some (some k))(h16:16≤b)(hm:St.gj (nu b) {σ with hp:=σ.hp.set b none}=some σ1)(hk:RB (E.rs b ty) w b k'):
 bQ gl {σ1 with hp:=σ1.hp.set b (some k')} (E.rs b ty) a w∧Ext gl.md (bx σ.hp E) E w (bx (σ1.hp.set b (some k')) (E.rs b ty)) (E.rs b ty) w:=by
 have am8:=UH (E:=E) (w:=w) (b:=b) (v:=ty)
 unfold St.gj at hm
 split at hm
 ·rename_i hp' df' h3 h4
  cases hm
  have src:∀(i:Nat)(k2:aO),(hp'.set b (some k'))[i]? =some (some k2)→(i=b∧k'=k2)∨(i≠b∧∃k0,σ.hp[i]? =some (some k0)∧je (nu b) (some k0)=some (some k2)):=by
   intro i k2 hi
   rw[dv] at hi
   split at hi
   ·grind
   ·rename_i hne
    obtain⟨k0,e1,e2⟩:=jQ h3 hi
    grind
  have any:∀(i:Nat)(k2:aO),(hp'.set b (some k'))[i]? =some (some k2)→∃k0,σ.hp[i]? =some (some k0):=by
   grind
  refine⟨⟨?_,?_,⟨?_,?_,?_,hg.hw.slt,hg.hw.gl,?_⟩,am8.RD h4 hg.df⟩,⟨rfl,Tp.r rfl rfl,rfl,dP _,fun _ _ _=>rfl,fun _ h=>h,fun _ h=>Or.inl h,?_,fun i hi=>⟨rfl,Env.D3 (by omega),rfl⟩⟩⟩
  ·simp only[jO];exact hg.len
  ·intro i y hy v hv
   rcases jP hy with e|⟨x,e1,e2,e3⟩
   ·subst e;trivial
   ·exact RV.eS (am8.RV e3 (RV.jq e2 (hg.tm i x e1 v hv)))
  ·intro i k2 hi
   rcases src i k2 hi with⟨e,e'⟩|⟨e1,k0,e3,e4⟩
   ·grind
   ·exact am8.RB (fun _ h=>h) (b:=i) (b':=i) rfl (Env.D3 e1) rfl (fun _ _ h=>h) e4 (hg.hw.cQ i k0 e3)
  ·intro i j k2 k3 g hi hj g1 g2
   obtain⟨k4,e1⟩:=any i k2 hi
   obtain⟨k5,e2⟩:=any j k3 hj
   exact hg.hw.ew i j k4 k5 g e1 e2 g1 g2
  ·intro i k2 g hi hgi hs
   obtain⟨k4,e1⟩:=any i k2 hi
   exact hg.hw.dC i k4 g e1 hgi hs
  ·intro i k2 g hi hgi
   obtain⟨k4,e1⟩:=any i k2 hi
   exact hg.hw.uu i k4 g e1 hgi
  ·rintro g ⟨i,k2,hi,hgi⟩
   obtain⟨k4,e1⟩:=any i k2 hi
   exact Or.inl ⟨i,k4,e1,hgi⟩
 grind
def pM(b:Nat)(σ:St):Option St:=
 match eD σ.hp b with
 |
  some (.pmap k t es e2 (some (kx,v,pr)))=>if Nat.ble 16 b&&k.keyed&&Kq b v then(match St.gj (nu b) {σ with hp:=σ.hp.set b none} with
  |some σ1=>some {σ1 with hp:=σ1.hp.set b (some (.gp k t es e2 kx v pr))}
  |none=>none) else none
 |_=>none
def MW(b:Nat)(t:Ty)(x:t.den)(σ:St):Option St:=
 match eD σ.hp b with
 |
  some (.map k v es)=>if h:Ty.same t k=true then(if Nat.ble 16 b&&k.keyed then(match St.gj (nu b) {σ with hp:=σ.hp.set b none} with
  |some σ1=>some {σ1 with hp:=σ1.hp.set b (some (.mN k v es (Ty.aB h▸x)))}
  |none=>none) else none) else none
 |_=>none
def nv(b:Nat)(σ:St):Option St:=
 match eD σ.hp b with
 |some (.gp k t es e2 kx v pr)=>some {σ with hp:=σ.hp.set b (some (.pmap k t es e2 (some (kx,v,pr))))}
 |_=>none
theorem PM.rs{b:Nat}{u:Value}{t:Ty}{es:List (kt.den×t.den)}{v:AV}{pr:Bool}(hn:Kq b v=true)(h:PM E w b kt t es e2 (some (kx,v,pr))):PM (E.rs b u) w b kt t es e2 (some (kx,v,pr)):=by
 obtain⟨h1,h2,h3,g,en,clock,og,q1,q2,q3,q4,q5,q6,q7,q8⟩:=h
 refine⟨h1,h2,h3,g,en,clock,og,q1,q2,q3,q4,q5,q6,fun i x hx=>?_,fun kx' v'=>⟨fun hf hnn=>?_,(q8 kx' v').2⟩⟩
 ·obtain⟨m,r1,r2,r3,r4⟩:=q7 i x hx
  refine⟨m,r1,bZ.mono (E:=E) (E':=E.rs b u) ⟨fun _ _=>rfl,fun _ h=>h⟩ (fun _ hb=>by cases hb) r2,fun v' pr' hv'=>?_,fun hv'=>r4 hv'⟩
  grind [MV]
 grind [MV]
theorem Wk.pM{gl:Ctx}{b:Nat}(h:Ax.pM b σ=some σ'):Wk gl σ σ':=by
 intro E a w hg
 unfold Ax.pM at h
 split at h
 case h_2=>cases h
 rename_i k t es e2 kx v pr hb0
 have hb:=bR σ.hp b _ hb0
 split at h
 case isFalse=>cases h
 rename_i hc
 simp only[bj] at hc
 obtain⟨⟨c1,c2⟩,c3⟩:=hc
 split at h
 case h_2=>cases h
 rename_i σ1 hm
 cases h
 have hpm:PM E w b k t es e2 (some (kx,v,pr)):=hg.hw.cQ b _ hb
 have hpm':=hpm
 obtain⟨z1,z2,z3,g,en,clock,og,y1,y2,y3,y4,y5,y6,y7,y8⟩:=hpm'
 have key:∃n:Nat,(kx∉es.map (·.1)→n=clock)∧∀(i:Nat)(m:MapEntry)(y:t.den),es[i]? =some (kx,y)→en[i]? =some m→m.born=n:=by
  by_cases hin:kx∈es.map (·.1)
  ·obtain⟨⟨zk,zy⟩,hz,ez⟩:=List.mem_map.1 hin
   simp only at ez;subst ez
   obtain⟨i,s1⟩:=List.getElem?_of_mem hz
   obtain⟨m,s2,_⟩:=y7 i _ s1
   refine⟨m.born,fun hh=>absurd hin hh,fun j m' y hj hm'=>?_⟩
   grind [xc]
  ·refine⟨clock,fun _=>rfl,fun j m' y hj _=>?_⟩<;>grind
 obtain⟨n,k1,k2⟩:=key
 refine⟨_,hg.rs (ty:=.int .i64 n) hb (iU c1) hm ⟨hpm.rs c3,n,g,en,clock,by simp[Env.rs],y1,y2,k1,k2⟩⟩
theorem Wk.MW{gl:Ctx}{b:Nat}{t:Ty}{x:t.den}(h:Ax.MW b t x σ=some σ'):Wk gl σ σ':=by
 intro E a w hg
 unfold Ax.MW at h
 split at h
 case h_2=>cases h
 rename_i k v es hb0
 have hb:=bR σ.hp b _ hb0
 split at h
 case isFalse=>cases h
 rename_i hs
 have e:=Ty.aB hs;subst e
 split at h
 case isFalse=>cases h
 rename_i hc
 simp only[bj] at hc
 obtain⟨c1,c2⟩:=hc
 split at h
 case h_2=>cases h
 rename_i σ1 hm
 cases h
 obtain⟨q1,q2,g,en,clock,q3,q4,q5,q6,q7⟩:=hg.hw.cQ b _ hb
 have key:∃n:Nat,(x∉es.map (·.1)→n=clock)∧∀(i:Nat)(m:MapEntry)(y:v.den),es[i]? =some (x,y)→en[i]? =some m→m.born=n:=by
  by_cases hin:x∈es.map (·.1)
  ·obtain⟨⟨zk,zy⟩,hz,ez⟩:=List.mem_map.1 hin
   simp only at ez;subst ez
   obtain⟨i,s1⟩:=List.getElem?_of_mem hz
   obtain⟨m,s2,_⟩:=RM.idx q5 s1
   have s2:en[i]? =some m:=by simpa using s2
   refine⟨m.born,fun hh=>absurd hin hh,fun j m' y hj hm'=>?_⟩
   have e:=xc q1 hj s1
   subst e
   rw[s2] at hm';cases hm';rfl
  ·refine⟨clock,fun _=>rfl,fun j m' y hj _=>?_⟩
   exact absurd (List.mem_map.2 ⟨_,kL hj,rfl⟩) hin
 obtain⟨n,k1,k2⟩:=key
 exact⟨_,hg.rs (ty:=.int .i64 n) hb (iU c1) hm ⟨q1,q2,g,en,clock,q3,q4,RM.mono (E:=E) (E':=E.rs b (.int .i64 n)) ⟨fun _ _=>rfl,fun _ h=>h⟩ q5,q6,q7,n,by simp[Env.rs],k1,k2⟩⟩
theorem Wk.nv{gl:Ctx}{b:Nat}(h:Ax.nv b σ=some σ'):Wk gl σ σ':=by
 intro E a w hg
 unfold Ax.nv at h
 split at h
 ·rename_i k t es e2 kx v pr hb0
  have hb:=bR σ.hp b _ hb0
  cases h
  obtain⟨hpm,_⟩:=hg.hw.cQ b _ hb
  have hw:=hg.hw.write (w':=w) (k':=.pmap k t es e2 (some (kx,v,pr))) hb rfl (fun _ _=>rfl) hpm
  exact⟨E,hg.carry ⟨fun _ _=>rfl,fun _ h=>h⟩ (fun _ _=>⟨rfl,rfl,rfl⟩) hw,{Ext.refl (md:=gl.md) (bx σ.hp E) E w with own:=fun g hg'=>Or.inl (bx.set hb hg')}⟩
 grind
def pN{α:Type}(le:α→α→Bool)(x:α):List α→List α
 |[]=>[x]
 |y::l=>if le x y then x::y::l else y::pN le x l
def uz{α:Type}(le:α→α→Bool):List α→List α
 |[]=>[]
 |x::l=>pN le x (uz le l)
variable{le:α→α→Bool}
theorem zH{x:α}:∀{l:List α},(pN le x l).Perm (x::l)
 |[]=>List.Perm.refl _
 |
  y::l=>by
  simp only[pN]
  split
  ·simp_all
  ·exact(zH.cons y).trans (List.Perm.swap ..)
theorem sO:∀{l:List α},(uz le l).Perm l
 |[]=>List.Perm.refl _
 |x::_l=>zH.trans (sO.cons x)
theorem zJ(ht:∀x y,le x y=true∨le y x=true)(hr:∀x y z,le x y=true→le y z=true→le x z=true){x y:α}(ha:le x y=true→le y x=true→x=y):∀{l:List α},pN le x (pN le y l)=pN le y (pN le x l)
 |
  []=>by
  grind [pN]
 |
  z::l=>by
  have ih:=zJ ht hr ha (l:=l)
  have step:∀{x y:α},(le x y=true→le y x=true→x=y)→le x y=true→pN le x (pN le y (z::l))=pN le y (pN le x (z::l))∨¬(le x z=true∨le y z=true):=by
   grind [pN]
  by_cases hb:le x z=true∨le y z=true
  ·grind
  simp_all[pN]
theorem PZ(ht:∀x y,le x y=true∨le y x=true)(hr:∀x y z,le x y=true→le y z=true→le x z=true){l m:List α}(h:l.Perm m):(∀x∈l,∀y∈l,le x y=true→le y x=true→x=y)→uz le l=uz le m:=by
 induction h with
 |nil=>grind
 |cons x _ ih=>grind [uz]
 |swap x y l=>grind [uz,zJ]
 |trans h1 _ ih1 ih2=>grind
def gz:(t:Ty)→t.den→t.den→Bool
 | .int _,x,y=>decide (@LE.le Int _ x y)
 | .bool,x,y=> !(x:Bool)||(y:Bool)
 | .pair a b,x,y=>if bl a x.1 y.1 then gz b x.2 y.2 else gz a x.1 y.1
 |_,_,_=>true
def Ty.JU:Ty→Bool
 | .int _| .bool| .unit=>true
 | .pair a b=>a.JU&&b.JU
 |_=>false
theorem Ty.pO:∀{t:Ty},t.JU=true→t.keyed=true
 | .int _,_| .bool,_| .unit,_=>rfl
 |
  .pair a b,h=>by
  simp only[Ty.JU,bj] at h
  simp only[Ty.keyed,bj]
  exact⟨pO h.1,pO h.2⟩
theorem xl:∀{t:Ty},t.JU=true→(∀x y:t.den,gz t x y=true∨gz t y x=true)∧(∀x y:t.den,gz t x y=true→gz t y x=true→x=y)∧∀x y z:t.den,gz t x y=true→gz t y z=true→gz t x z=true
 |
  .int _,_=>by
  refine⟨fun x y=>?_,fun x y h1 h2=>?_,fun x y z h1 h2=>?_⟩
  ·simp_all[gz,Int.le_total]
  ·simp only[gz,j5] at h1 h2;grind
  ·simp only[gz,j5] at h1 h2 ⊢;grind
 |
  .bool,_=>by
  trivial
 | .unit,_=>⟨fun _ _=>Or.inl rfl,fun _ _ _ _=>rfl,fun _ _ _ _ _=>rfl⟩
 |
  .pair a b,h=>by
  simp only[Ty.JU,bj] at h
  obtain⟨a1,a2,a3⟩:=xl h.1
  obtain⟨b1,b2,b3⟩:=xl h.2
  have ek:∀x y:a.den,bl a x y=true↔x=y:=bO (Ty.pO h.1)
  refine⟨fun x y=>?_,fun x y h1 h2=>?_,fun x y z h1 h2=>?_⟩
  ·obtain⟨x1,x2⟩:=x;obtain⟨y1,y2⟩:=y
   simp only[gz]
   grind
  ·obtain⟨x1,x2⟩:=x;obtain⟨y1,y2⟩:=y
   simp only[gz] at h1 h2
   grind
  ·obtain⟨x1,x2⟩:=x;obtain⟨y1,y2⟩:=y;obtain⟨z1,z2⟩:=z
   simp only[gz] at h1 h2 ⊢
   grind
noncomputable def ue{A R:Type}(xs:List A)(K:List A→Option R):Option R:=
 @dite _ (∃r,∀ys:List A,ys.Perm xs→K ys=some r) (Classical.propDecidable _) (fun h=>some h.choose) (fun _=>none)
variable{A:Type}
theorem F7{R:Type}{xs:List A}{K:List A→Option R}{r:R}(h:ue xs K=some r){ys:List A}(hp:ys.Perm xs):K ys=some r:=by
 unfold ue at h
 split at h<;>grind
theorem MZ{R:Type}{xs:List A}{K:List A→Option R}{r:R}(h:∀ys:List A,ys.Perm xs→K ys=some r):ue xs K=some r:=by
 unfold ue
 have hh:∃r,∀ys:List A,ys.Perm xs→K ys=some r:=⟨r,h⟩
 rw[dif_pos hh]
 congr 1
 have:=hh.choose_spec xs (List.Perm.refl _)
 grind [List.Perm.refl]
theorem bQ.Yj{gl:Ctx}{a:Act}(h:bQ gl σ E a w){b:Nat}{e:TypeId}{t:Ty}{xs:List t.den}(hb:σ.hp[b]? =some (some (.gq e bs t xs))):
 ∃ys:List t.den,ys.Perm xs∧bQ gl {σ with hp:=σ.hp.set b (some (.row e bs t ys))} E a w:=by
 obtain⟨ys,hp,q⟩:=h.hw.cQ b _ hb
 exact⟨ys,hp,⟨h.len,h.tm,h.hw.write (w':=w) (k':=.row e bs t ys) hb rfl (fun _ _=>rfl) q,h.df⟩⟩
theorem bQ.UI{gl:Ctx}{a:Act}{b:Nat}{e:TypeId}{t:Ty}{xs ys:List t.den}(h:bQ gl σ E a w)(hb:σ.hp[b]? =some (some (.row e bs t ys)))(hp:ys.Perm xs):
 bQ gl {σ with hp:=σ.hp.set b (some (.gq e bs t xs))} E a w:=
 ⟨h.len,h.tm,h.hw.write (w':=w) (k':=.gq e bs t xs) hb rfl (fun _ _=>rfl) ⟨ys,hp,h.hw.cQ b _ hb⟩,h.df⟩
theorem bx.same{b:Nat}{k:aO}(hb:hp[b]? =some (some k)):bx (hp.set b (some k')) E=bx hp E:=by
 have hl:b<hp.length:=(List.getElem?_eq_some_iff.1 hb).1
 funext i
 refine propext ⟨bx.jd hb,fun h=>?_⟩
 have h2:bx ((hp.set b (some k')).set b (some k)) E i:=by
  have e:(hp.set b (some k')).set b (some k)=hp:=by
   apply List.ext_getElem?
   grind
  grind
 exact bx.jd (k:=k') (by simp[hl]) h2
def N5(b:Nat)(σ:St):Option St:=
 match eD σ.hp b with
 |some (.row e bs t xs)=>some {σ with hp:=σ.hp.set b (some (.gq e bs t (uz (gz t) xs)))}
 |_=>none
theorem Wk.N5{gl:Ctx}{b:Nat}(h:Ax.N5 b σ=some σ'):Wk gl σ σ':=by
 unfold Ax.N5 at h
 split at h
 ·rename_i e bs t xs hk
  cases h
  have hb:=bR σ.hp b _ hk
  intro E a w hg
  refine⟨E,hg.UI hb sO.symm,?_⟩
  grind [bx.same,Ext.refl]
 grind
def To(b b' c:Nat):Nat:=if Nat.beq c b then b' else c
def rn(b b':Nat):AV→Option AV
 | .own c=>some (.own (To b b' c))
 | .ku c lo len=>some (.ku (To b b' c) lo len)
 | .ptr c p=>some (.ptr (To b b' c) p)
 | .mp c=>some (.mp (To b b' c))
 |
  .func fn fs cs=>match rn b b' fs,rn b b' cs with
  |some f,some c=>if f.atoms&&c.atoms then some (.func fn f c) else none
  |_,_=>none
 |
  .iface u v=>match rn b b' v with
  |some x=>some (.iface u x)
  |none=>none
 |
  .cons x y=>match rn b b' x,rn b b' y with
  |some u,some v=>some (.cons u v)
  |_,_=>none
 | .bot=>none
 | .fU _=>none
 | .opt _ _=>none
 | .eQ _=>none
 |x=>some x
def Env.mv(E:Env)(b b':Nat):Env:={E with P:=fun c=>if c=b' then E.P b else E.P c,g:=fun c=>if c=b' then E.g b else E.g c,sv:=fun c=>if c=b' then E.sv b else E.sv c,bt:=fun c=>if c=b' then E.bt b else E.bt c}
theorem D4{b c:Nat}(h:c≠b'):(E.mv b b').g (To b b' c)=E.g c∧(E.mv b b').sv (To b b' c)=E.sv c∧(E.mv b b').bt (To b b' c)=E.bt c:=by
 grind [To,bM,Env.mv]
theorem M0(b b':Nat)(x y:AV)(h:rn b b' x=some y):y.isAgg=x.isAgg:=by
 cases x with
 |
  func fn fs cs=>
  simp only[rn] at h
  split at h
  ·split at h
   ·cases h;rfl
   grind
  grind
 |
  iface u v=>
  simp only[rn] at h
  split at h
  ·cases h;rfl
  grind
 |
  cons a c=>
  simp only[rn] at h
  split at h
  ·cases h;rfl
  grind
 |bot=>trivial
 |fU l=>trivial
 |opt c v=>trivial
 |eQ c=>trivial
 |_=>simp only[rn,cX] at h;subst h;rfl
theorem Yk{b:Nat}:∀{x y:AV}{vs:List Value},b'∉x.ids→rn b b' x=some y→RC E w x vs→RC (E.mv b b') w y vs:=by
 intro x
 induction x with
 |own c=>
  intro y vs hi h hr;simp only[rn,cX] at h;subst h
  obtain⟨_,e2,_⟩:=D4 (E:=E) (b:=b) (b':=b') (c:=c) (fun e=>hi (by simp[AV.ids,e]))
  simp only[RC];rw[e2];exact hr
 |ku c lo len=>
  intro y vs hi h hr;simp only[rn,cX] at h;subst h
  obtain⟨_,e2,e3⟩:=D4 (E:=E) (b:=b) (b':=b') (c:=c) (fun e=>hi (by simp[AV.ids,e]))
  simp only[RC];rw[e2,e3];exact hr
 |ptr c p=>grind [rn,D4,AV.ids,RC]
 |mp c=>grind [rn,D4,AV.ids,RC]
 |
  func fn fs cs ih1 ih2=>
  intro y vs hi h hr
  simp only[rn] at h
  simp only[AV.ids,jb,not_or] at hi
  split at h
  ·rename_i f c h1 h2
   split at h
   ·rename_i ha
    cases h
    simp only[bj] at ha
    obtain⟨f',c',e,r1,r2,_,_⟩:=hr
    exact⟨f',c',e,ih1 hi.1 h1 r1,ih2 hi.2 h2 r2,ha.1,ha.2⟩
   grind
  grind
 |
  iface u v ih=>
  intro y vs hi h hr
  simp only[rn] at h
  split at h
  ·rename_i z hz
   cases h
   obtain⟨x,e,hr⟩:=hr
   refine⟨x,e,?_⟩
   have amH:=M0 b b' v z hz
   rcases hr with⟨h1,cs,e2,h3⟩|⟨h1,h3⟩
   ·exact Or.inl ⟨by grind,cs,e2,ih hi hz h3⟩
   ·exact Or.inr ⟨by grind,ih hi hz h3⟩
  grind
 |
  cons a c ih1 ih2=>
  intro y vs hi h hr
  simp only[rn] at h
  simp only[AV.ids,jb,not_or] at hi
  split at h
  ·rename_i u v h1 h2
   cases h
   obtain⟨v1,v2,e,r1,r2⟩:=hr
   exact⟨v1,v2,e,ih1 hi.1 h1 r1,ih2 hi.2 h2 r2⟩
  grind
 |bot=>intro y vs _ h;trivial
 |fU l=>intro y vs _ h;trivial
 |opt c v=>intro y vs _ h;trivial
 |eQ c=>intro y vs _ h;trivial
 |iy v=>intro y vs _ h hr;simp only[rn,cX] at h;subst h;exact RC.mono (E:=E) (E':=E.mv b b') (w:=w) (w':=w) (a:=.iy v) ⟨fun _ _=>rfl,fun _ h=>h⟩ (fun c hc=>by cases hc) hr
 |_=>intro y vs _ h hr;simp only[rn,cX] at h;subst h;exact hr
theorem UJ{b:Nat}:Good E (E.mv b b') w (fun x=>if cq b' x.ids then none else rn b b' x) where
 mp:=by
  intro c y h
  split at h
  ·cases h
  ·rename_i hn
   have hn:=fa (show cq b' (AV.mp c).ids=false by grind)
   grind [rn,D4,AV.ids]
 rc:=by
  grind [Yk,fa]
 agg:=by
  grind [M0]
 fn:=
  by
  intro fn fs cs y h
  split at h
  ·cases h
  ·rename_i hn
   have hn:=fa (show cq b' (AV.func fn fs cs).ids=false by grind)
   simp only[AV.ids,jb,not_or] at hn
   simp only[rn] at h
   have f1:cq b' fs.ids=false:=by
    cases hh:cq b' fs.ids with
    |false=>rfl
    |true=>exact absurd (hasNatMem hh) hn.1
   have f2:cq b' cs.ids=false:=by
    cases hh:cq b' cs.ids with
    |false=>rfl
    |true=>exact absurd (hasNatMem hh) hn.2
   grind
where
 hasNatMem {d:Nat}:∀{l:List Nat},cq d l=true→d∈l
  |[],h=>by cases h
  |
   x::l,h=>by
   simp only[cq,fK] at h
   rcases h with h|h
   ·simp_all
   ·exact dj _ (hasNatMem h)
def rename(b b':Nat)(σ:St):Option St:=
 match eD σ.hp b,eD σ.hp b' with
 |
  some k,none=>if Nat.beq b b'||Nat.blt b' 16 then none else
  match St.gj (fun x=>if cq b' x.ids then none else rn b b' x) {σ with hp:=σ.hp.set b none},je (fun x=>if cq b' x.ids then none else rn b b' x) (some k) with
  |some σ',some k'=>some {σ' with hp:=σ'.hp.set b' k'}
  |_,_=>none
 |_,_=>none
theorem Wk.rename{gl:Ctx}{b:Nat}(h:Ax.rename b b' σ=some σ'):Wk gl σ σ':=by
 intro E a w hg
 unfold Ax.rename at h
 split at h
 ·rename_i k hk hk'
  have hbk:=bR σ.hp b k hk
  split at h
  ·cases h
  ·rename_i hne0
   have hne:b≠b':=fun e=>hne0 (by simp[e])
   have h16:16≤b':=by
    simp_all
   split at h
   ·rename_i σ1 k1 h1 h2
    cases h
    unfold St.gj at h1
    split at h1
    ·rename_i hp' df' h3 h4
     cases h1
     have am8:=UJ (E:=E) (w:=w) (b:=b) (b':=b')
     have hEh:∀i j,(i=b'→j=b)→(i≠b'→j=i)→∀x,(E.mv b b').has i x↔E.has j x:=by
      grind [Env.has,Env.mv]
     have hEo:∀i,i≠b'→(E.mv b b').g i=E.g i∧(E.mv b b').sv i=E.sv i∧(E.mv b b').bt i=E.bt i:=fun i hi=>by simp[Env.mv,hi]
     have hEn:(E.mv b b').g b'=E.g b∧(E.mv b b').sv b'=E.sv b∧(E.mv b b').bt b'=E.bt b:=by simp[Env.mv]
     have src:∀(i:Nat)(k':aO),(hp'.set b' k1)[i]? =some (some k')→(i=b'∧k1=some k')∨(i≠b'∧i≠b∧∃k0,σ.hp[i]? =some (some k0)∧je (fun x=>if cq b' x.ids then none else rn b b' x) (some k0)=some (some k')):=by
      intro i k' hi
      rw[dv] at hi
      split at hi
      ·grind
      grind [jQ]
     have gOf:∀(i:Nat)(k':aO),(hp'.set b' k1)[i]? =some (some k')→∃j k0,σ.hp[j]? =some (some k0)∧(∀x,(E.mv b b').has i x↔E.has j x)∧(i=b'→j=b)∧(i≠b'→j=i):=by
      grind
     refine⟨E.mv b b',⟨?_,?_,⟨?_,?_,?_,hg.hw.slt,hg.hw.gl,?_⟩,am8.RD h4 hg.df⟩,⟨rfl,Tp.r rfl rfl,rfl,dP _,fun _ _ _=>rfl,fun _ h=>h,fun _ h=>Or.inl h,?_,fun i hi=>hEo i (by omega)⟩⟩
     ·simp only[jO];exact hg.len
     ·intro i y hy v hv
      rcases jP hy with e|⟨x,e1,e2,e3⟩
      ·subst e;trivial
      ·exact RV.eS (am8.RV e3 (RV.jq e2 (hg.tm i x e1 v hv)))
     ·intro i k' hi
      rcases src i k' hi with⟨e,e'⟩|⟨e1,e2,k0,e3,e4⟩
      ·subst e
       rw[e'] at h2
       exact am8.RB (fun _ h=>h) (b:=b) (b':=i) hEn.1 hEn.2.1 hEn.2.2 (fun _ g hp=>by simpa[Env.mv] using hp) h2 (hg.hw.cQ b k hbk)
      ·exact am8.RB (fun _ h=>h) (b:=i) (b':=i) (hEo i e1).1 (hEo i e1).2.1 (hEo i e1).2.2 (fun _ g hp=>by simpa[Env.mv,e1] using hp) e4 (hg.hw.cQ i k0 e3)
     ·intro i j k2 k3 g' hi hj g1 g2
      obtain⟨i',k4,e1,e2,e3,e4⟩:=gOf i k2 hi
      obtain⟨j',k5,f1,f2,f3,f4⟩:=gOf j k3 hj
      have g1:=(e2 _).1 g1;have g2:=(f2 _).1 g2
      have hij:=hg.hw.ew i' j' k4 k5 g' e1 f1 g1 g2
      grind
     ·intro i k' g' hi hgi hs
      obtain⟨i',k4,e1,e2,_,_⟩:=gOf i k' hi
      exact hg.hw.dC i' k4 g' e1 ((e2 _).1 hgi) hs
     ·intro i k' g' hi hgi
      obtain⟨i',k4,e1,e2,_,_⟩:=gOf i k' hi
      rcases(e2 _).1 (Or.inr hgi) with q|q
      ·exact bx.below hg.hw ⟨i',k4,e1,Or.inl q⟩
      ·exact hg.hw.uu i' k4 g' e1 q
     ·rintro g' ⟨i,k',hi,hgi⟩
      obtain⟨i',k4,e1,e2,_,_⟩:=gOf i k' hi
      exact Or.inl ⟨i',k4,e1,(e2 _).1 hgi⟩
    grind
   grind
 grind
def yn(s b:Nat)(e:TypeId)(bs:Nat)(t:Ty)(σ:St):Option St:=
 match σ.tm[s]? with
 |some .bn=>if σ.fA b&&Nat.blt 0 t.size then some {σ with tm:=σ.tm.set s (.own b),hp:=σ.hp.set b (some (.row e bs t []))} else none
 |_=>none
theorem Wk.yn{gl:Ctx}{s b:Nat}{e:TypeId}{t:Ty}(h:Ax.yn s b e bs t σ=some σ'):Wk gl σ σ':=by
 intro E a w hg
 unfold Ax.yn at h
 split at h
 ·rename_i hs
  split at h
  ·rename_i hc
   cases h
   simp only[bj] at hc
   have hlt:s<a.tmps.size:=by rw[hg.len];grind
   have ha:=RV.atom rfl (hg.tm s _ hs a.tmps[s] (by grind))
   simp[RC] at ha
   have hsz:0<t.size:=by simp_all
   obtain⟨g1,x1⟩:=hg.fresh (w':=w) (St.dR hc.1) (g:=none) (sv:=.slice none 0 0) (t:=.arr 0 t) (k:=.row e bs t []) rfl (Tp.r rfl rfl) rfl (dP _) (fun _ _=>rfl) (fun i hi=>by cases hi)
    ⟨by simp[Env.at],by simp,by simp,hsz,none,0,by simp[Env.at],by grind,Or.inl ⟨⟨rfl,rfl⟩,by simp[Env.at],rfl⟩⟩
   refine⟨_,⟨by simp[hg.len],?_,g1.hw,g1.df⟩,x1⟩
   intro i x hx v hv
   rw[dv] at hx
   split at hx
   ·rename_i e';subst e'
    split at hx
    ·cases hx
     have:v= .slice none 0 0:=by grind
     subst this
     exact RV.eS (Or.inr ⟨rfl,by simp[Env.at],none,0,0,by simp[Env.at]⟩)
    grind
   ·exact g1.tm i x hx v hv
  grind
 grind
def kz:Ty→Path→Bool
 | .pair a _,.cD 0::p=>kz a p
 | .pair _ b,.cD (k+1)::p=>kz b (.cD k::p)
 |_,[]=>true
 |_,_=>false
theorem oj:∀{t:Ty}{p:Path},kz t p=true→t.valid p:=by
 intro t
 induction t with
 |
  pair a b ih1 ih2=>
  intro p h
  cases p with
  |nil=>trivial
  |
   cons s p=>
   cases s with
   |
    cD k=>cases k with
    |zero=>grind [kz,Ty.valid]
    |succ k=>grind [kz,Ty.valid]
   |idx i=>trivial
 |
  _=>
  grind [Ty.valid,kz]
def sP(c:Nat)(p:Path)(b:Nat)(e:TypeId)(bs:Nat)(t:Ty)(σ:St):Option St:=
 match eD σ.hp c with
 |
  some (.var tt v)=>match v.get p,v.set p (.own b) with
  |some .bn,some u=>if σ.fA b&&Nat.blt 0 t.size&&u.cp tt&&kz tt p&& !Nat.beq c b then some {σ with hp:=(σ.hp.set b (some (.row e bs t []))).set c (some (.var tt u))} else none
  |_,_=>none
 |
  some (.cI e2 bs2 tt xs i v)=>match v.get p,v.set p (.own b) with
  |some .bn,some u=>if σ.fA b&&Nat.blt 0 t.size&&u.cp tt&&kz tt p&& !Nat.beq c b then some {σ with hp:=(σ.hp.set b (some (.row e bs t []))).set c (some (.cI e2 bs2 tt xs i u))} else none
  |_,_=>none
 |_=>none
theorem Wk.sP{gl:Ctx}{c:Nat}{p:Path}{b:Nat}{e:TypeId}{t:Ty}(h:Ax.sP c p b e bs t σ=some σ'):Wk gl σ σ':=by
 intro E a w hg
 unfold Ax.sP at h
 split at h
 ·rename_i tt v hc
  have hbk:=bR σ.hp c _ hc
  split at h
  ·rename_i u amX aS
   split at h
   ·rename_i hk
    cases h
    simp only[bj] at hk
    obtain⟨⟨⟨⟨k1,k2⟩,k3⟩,k4⟩,k5⟩:=hk
    have hcb:c≠b:=fun e'=>by simp_all
    have hsz:0<t.size:=by simp_all
    obtain⟨g1,x1⟩:=hg.fresh (w':=w) (St.dR k1) (g:=none) (sv:=.slice none 0 0) (t:=.arr 0 t) (k:=.row e bs t []) rfl (Tp.r rfl rfl) rfl (dP _) (fun _ _=>rfl) (fun i hi=>by cases hi)
     ⟨by simp[Env.at],by simp,by simp,hsz,none,0,by simp[Env.at],by grind,Or.inl ⟨⟨rfl,rfl⟩,by simp[Env.at],rfl⟩⟩
    have hb1:(σ.hp.set b (some (.row e bs t [])))[c]? =some (some (.var tt v)):=by
     grind
    obtain⟨r1,r2,g,cs,e',r3,r4,r5⟩:=g1.hw.cQ c _ hb1
    have hva:=oj k4
    obtain⟨s,q1,q2,q3,q4⟩:=AV.gI r5 r2 hva amX
    have hs1:s.size=1:=AV.dU q2▸rfl
    have hown:RC (E.at b none (.slice none 0 0) (.arr 0 t)) w (.own b) [.slice none 0 0]:=⟨by simp[Env.at],none,0,0,by simp[Env.at]⟩
    obtain⟨s',p1,p2,p3,p4⟩:=AV.mO hown r5 r2 hva (fun s' hs'=>by grind) aS
    rw[q1] at p1;cases p1
    simp only[RC] at q4
    have hcs:cs.toList.take (tt.off p)++[Value.slice none 0 0]++cs.toList.drop (tt.off p+s.size)=cs.toList:=by
     grind [kH]
    rw[hcs] at p4
    have hw2:=g1.hw.write (w':=w) (k':=.var tt u) hb1 rfl (fun _ _=>rfl) ⟨r1,k3,g,cs,e',r3,r4,p4⟩
    refine⟨_,⟨g1.len,g1.tm,hw2,g1.df⟩,{x1 with own:=?_ }⟩
    intro g' hg'
    exact x1.own g' (bx.jd hb1 hg')
   grind
  grind
 ·rename_i e2 bs2 tt xs i v hc
  have hbk:=bR σ.hp c _ hc
  split at h
  ·rename_i u amX aS
   split at h
   ·rename_i hk
    cases h
    simp only[bj] at hk
    obtain⟨⟨⟨⟨k1,k2⟩,k3⟩,k4⟩,k5⟩:=hk
    have hcb:c≠b:=fun e'=>by simp_all
    have hsz:0<t.size:=by simp_all
    obtain⟨g1,x1⟩:=hg.fresh (w':=w) (St.dR k1) (g:=none) (sv:=.slice none 0 0) (t:=.arr 0 t) (k:=.row e bs t []) rfl (Tp.r rfl rfl) rfl (dP _) (fun _ _=>rfl) (fun i hi=>by cases hi)
     ⟨by simp[Env.at],by simp,by simp,hsz,none,0,by simp[Env.at],by grind,Or.inl ⟨⟨rfl,rfl⟩,by simp[Env.at],rfl⟩⟩
    have hb1:(σ.hp.set b (some (.row e bs t [])))[c]? =some (some (.cI e2 bs2 tt xs i v)):=by
     grind
    obtain⟨h1,h2,h3,h4,h5,r2,g,cap,cs,z1,z2,z3,z4,z5,z6,z7,r5,z9⟩:=g1.hw.cQ c _ hb1
    have hva:=oj k4
    obtain⟨s,q1,q2,q3,q4⟩:=AV.gI r5 r2 hva amX
    have hs1:s.size=1:=AV.dU q2▸rfl
    have hown:RC (E.at b none (.slice none 0 0) (.arr 0 t)) w (.own b) [.slice none 0 0]:=⟨by simp[Env.at],none,0,0,by simp[Env.at]⟩
    obtain⟨s',p1,p2,p3,p4⟩:=AV.mO hown r5 r2 hva (fun s' hs'=>by grind) aS
    rw[q1] at p1;cases p1
    simp only[RC] at q4
    have hcs:((cs.toList.drop (i*tt.size)).take tt.size).take (tt.off p)++[Value.slice none 0 0]++((cs.toList.drop (i*tt.size)).take tt.size).drop (tt.off p+s.size)=(cs.toList.drop (i*tt.size)).take tt.size:=by
     grind [mc,kH]
    rw[hcs] at p4
    have hw2:=g1.hw.write (w':=w) (k':=.cI e2 bs2 tt xs i u) hb1 rfl (fun _ _=>rfl) ⟨h1,h2,h3,h4,h5,k3,g,cap,cs,z1,z2,z3,z4,z5,z6,z7,p4,z9⟩
    refine⟨_,⟨g1.len,g1.tm,hw2,g1.df⟩,{x1 with own:=?_ }⟩
    intro g' hg'
    exact x1.own g' (bx.jd hb1 hg')
   grind
  grind
 grind
def Env.tr(E:Env)(b d:Nat)(v:Value)(t:Ty):Env:=
 {E with P:=fun c=>if c=d then E.P b else E.P c,g:=fun c=>if c=d then E.g b else E.g c,sv:=fun c=>if c=d then v else E.sv c,bt:=fun c=>if c=d then t else E.bt c}
theorem Env.Iw{b d:Nat}{v:Value}{t:Ty}{ids:List Nat}(h:d∉ids):E.on (E.tr b d v t) ids:=fun c hc=>by
 grind [Env.tr]
def oY(c:Nat)(p:Path)(d:Nat)(σ:St):Option St:=
 match eD σ.hp c with
 |
  some (.var tt v)=>match v.get p,v.set p (.own d) with
  |
   some (.ku b 0 len),some u=>match eD σ.hp b with
   |some (.row e bs t xs)=>if σ.fA d&&u.cp tt&&kz tt p&& !Nat.beq c b then some {σ with hp:=((σ.hp.set b none).set d (some (.row e bs t (xs.take len)))).set c (some (.var tt u))} else none
   |_=>none
  |_,_=>none
 |_=>none
theorem Wk.oY{gl:Ctx}{c:Nat}{p:Path}{d:Nat}(h:Ax.oY c p d σ=some σ'):Wk gl σ σ':=by
 intro E a w hg
 unfold Ax.oY at h
 split at h
 case h_2=>cases h
 rename_i tt v hc
 have hbk:=bR σ.hp c _ hc
 split at h
 case h_2=>cases h
 rename_i b len u amX aS
 split at h
 case h_2=>cases h
 rename_i e bs t xs hb
 have hbr:=bR σ.hp b _ hb
 split at h
 case isFalse=>cases h
 rename_i hk
 cases h
 simp only[bj] at hk
 obtain⟨⟨⟨k1,k2⟩,k3⟩,k4⟩:=hk
 have hcb:c≠b:=fun e'=>by grind
 have hfr:=St.dR k1
 have hids:=lv.1 hfr.1
 have hdb:d≠b:=fun e'=>hfr.2.1 _ (e'▸hbr)
 have hdc:d≠c:=fun e'=>hfr.2.1 _ (e'▸hbk)
 have hdv:d∉v.ids:=hids.2.2 c _ hbk
 have h16:16≤d:=hfr.2.2
 obtain⟨r1,r2,g,cs,e',r3,r4,r5⟩:=hg.hw.cQ c _ hbk
 obtain⟨s1,s2,s3,s4,ra,cap,s5,s6,s7⟩:=hg.hw.cQ b _ hbr
 have hva:=oj k3
 obtain⟨s,q1,q2,q3,q4⟩:=AV.gI r5 r2 hva amX
 have hs1:s.size=1:=AV.dU q2▸rfl
 obtain⟨a1,c1,n1,t1,z1,z2,z3,z4,a',z5,z6⟩:=q4
 rw[s5] at z2;cases z2
 have za:a'=ra:=by
  rcases z6 with z6|z6
  ·grind
  grind [Addr.xp]
 rw[za] at z5
 have hlen:(xs.take len).length=len:=by grind
 have kp:bE E w (E.tr b d (.slice ra len cap) (.arr (xs.take len).length t)) w:=⟨fun _ _=>rfl,fun _ h=>h⟩
 have hEh:∀i j,(i=d→j=b)→(i≠d→j=i)→∀x,(E.tr b d (.slice ra len cap) (.arr (xs.take len).length t)).has i x↔E.has j x:=by
  grind [Env.has,Env.tr]
 have src:∀(i:Nat)(k':aO),((((σ.hp.set b none).set d (some (.row e bs t (xs.take len)))).set c (some (.var tt u)))[i]? =some (some k'))→
  (i=c∧k'= .var tt u)∨(i=d∧k'= .row e bs t (xs.take len))∨(i≠c∧i≠d∧i≠b∧σ.hp[i]? =some (some k')):=by
  grind
 have gOf:∀(i:Nat)(k':aO),((((σ.hp.set b none).set d (some (.row e bs t (xs.take len)))).set c (some (.var tt u)))[i]? =some (some k'))→
  ∃j k0,σ.hp[j]? =some (some k0)∧(∀x,(E.tr b d (.slice ra len cap) (.arr (xs.take len).length t)).has i x↔E.has j x)∧(i=d→j=b)∧(i≠d→j=i):=by
  grind
 refine⟨E.tr b d (.slice ra len cap) (.arr (xs.take len).length t),⟨hg.len,?_,⟨?_,?_,?_,hg.hw.slt,hg.hw.gJ kp,?_⟩,RD.mono kp (fun x hx=>Env.Iw (fun hd=>hids.2.1 x hx hd)) hg.df⟩,
  ⟨rfl,Tp.r rfl rfl,rfl,dP _,fun _ _ _=>rfl,fun _ h=>h,fun _ h=>Or.inl h,?_,fun i hi=>by grind [Env.tr]⟩⟩
 ·intro i x hx v hv
  exact RV.mono kp (Env.Iw (fun hd=>hids.1 i x hx hd)) (hg.tm i x hx v hv)
 ·intro i k' hi
  rcases src i k' hi with⟨rfl,rfl⟩|⟨rfl,rfl⟩|⟨e1,e2,e3,e4⟩
  ·have r5':=RC.mono kp (Env.Iw hdv) r5
   have hown:RC (E.tr b d (.slice ra len cap) (.arr (xs.take len).length t)) w (.own d) [.slice ra len cap]:=⟨by simp[Env.tr],ra,len,cap,by simp[Env.tr]⟩
   obtain⟨s',p1,p2,p3,p4⟩:=AV.mO hown r5' r2 hva (fun s' hs'=>by grind) aS
   rw[q1] at p1;cases p1
   have z5':List.take s.size (List.drop (tt.off p) cs.toList)= [.slice ra len cap]:=by grind
   have hcs:cs.toList.take (tt.off p)++[Value.slice ra len cap]++cs.toList.drop (tt.off p+s.size)=cs.toList:=by
    grind [mc,kH]
   rw[hcs] at p4
   exact⟨by simpa[Env.tr,Ne.symm hdc] using r1,k2,g,cs,e',by simpa[Env.tr,Ne.symm hdc] using r3,r4,p4⟩
  ·refine⟨by simp[Env.tr],by rw[hlen];exact dh (ji _ (by omega)) s2,by grind,s4,ra,cap,by simp[Env.tr,hlen],s6,?_⟩
   rcases s7 with⟨x1,x2,x3⟩|⟨g',c',x1,x2,x3,x4,x5,x6⟩
   ·grind [Env.tr]
   ·refine Or.inr ⟨g',c',by simpa[Env.tr] using x1,x2,x3,x4,by grind,?_⟩
    have:=bk.take (fun vs x=>Rel.len) len x6
    rw[qw,qx (ji _ (by omega))] at this
    rw[hlen];trivial
  ·exact RB.mono kp (Env.Iw (by grind)) (fun _ _=>rfl) (fun _ g hp=>by simpa[Env.tr,e2] using hp) (hg.hw.cQ i k' e4)
 ·intro i j k2 k3 g' hi hj g1 g2
  obtain⟨i',k4,e1,e2,e3,e4⟩:=gOf i k2 hi
  obtain⟨j',k5,f1,f2,f3,f4⟩:=gOf j k3 hj
  have hij:=hg.hw.ew i' j' k4 k5 g' e1 f1 ((e2 _).1 g1) ((f2 _).1 g2)
  grind
 ·intro i k' g' hi hgi hs
  obtain⟨i',k4,e1,e2,_,_⟩:=gOf i k' hi
  exact hg.hw.dC i' k4 g' e1 ((e2 _).1 hgi) hs
 ·intro i k' g' hi hgi
  obtain⟨i',k4,e1,e2,_,_⟩:=gOf i k' hi
  rcases(e2 _).1 (Or.inr hgi) with q|q
  ·exact bx.below hg.hw ⟨i',k4,e1,Or.inl q⟩
  ·exact hg.hw.uu i' k4 g' e1 q
 ·rintro g' ⟨i,k',hi,hgi⟩
  obtain⟨i',k4,e1,e2,_,_⟩:=gOf i k' hi
  exact Or.inl ⟨i',k4,e1,(e2 _).1 hgi⟩
def rp(c:Nat)(p:Path)(σ:St):Option St:=
 match eD σ.hp c with
 |
  some (.var tt v)=>match tt.sub p,v.get p with
  |
   some u,some _=>match v.set p (.dK u) with
   |some v'=>if v'.cp tt&&kz tt p then some {σ with hp:=σ.hp.set c (some (.var tt v'))} else none
   |none=>none
  |_,_=>none
 |_=>none
theorem Wk.rp{gl:Ctx}{c:Nat}{p:Path}(h:Ax.rp c p σ=some σ'):Wk gl σ σ':=by
 intro E a w hg
 unfold Ax.rp at h
 split at h
 case h_2=>cases h
 rename_i tt v hc
 have hbk:=bR σ.hp c _ hc
 split at h
 case h_2=>cases h
 rename_i u x0 hu amX
 split at h
 case h_2=>cases h
 rename_i v' aS
 split at h
 case isFalse=>cases h
 rename_i hk
 cases h
 simp only[bj] at hk
 obtain⟨r1,r2,g,cs,e,r3,r4,r5⟩:=hg.hw.cQ c _ hbk
 have hva:=oj hk.2
 obtain⟨s,q1,q2,q3,q4⟩:=AV.gI r5 r2 hva amX
 rw[hu] at q1;cases q1
 have hj:RC E w (.dK u) (List.take u.size (List.drop (tt.off p) cs.toList)):=by
  refine⟨by grind,fun x hx=>RC.one r5 x (List.mem_of_mem_drop (List.mem_of_mem_take hx))⟩
 obtain⟨s',p1,p2,p3,p4⟩:=AV.mO hj r5 r2 hva (fun s' hs'=>by grind) aS
 rw[hu] at p1;cases p1
 have hcs:cs.toList.take (tt.off p)++List.take u.size (List.drop (tt.off p) cs.toList)++cs.toList.drop (tt.off p+u.size)=cs.toList:=by
  grind [kH]
 rw[hcs] at p4
 have hw:=hg.hw.write (w':=w) (k':=.var tt v') hbk rfl (fun _ _=>rfl) ⟨r1,hk.1,g,cs,e,r3,r4,p4⟩
 exact⟨E,hg.carry ⟨fun _ _=>rfl,fun _ h=>h⟩ (fun _ _=>⟨rfl,rfl,rfl⟩) hw,{Ext.refl (md:=gl.md) (bx σ.hp E) E w with own:=fun g hg'=>Or.inl (bx.set hbk hg')}⟩
inductive Gh where
 |D0 (ts bs:List Nat)
 |MK (s:Nat) (t:Ty)
 |F3 (b:Nat)
 |freeze (b:Nat) (t:Ty)
 |ren (b b':Nat)
 |yn (s b:Nat) (e:TypeId) (bs:Nat) (t:Ty)
 |sP (c:Nat) (p:Path) (b:Nat) (e:TypeId) (bs:Nat) (t:Ty)
 |k9 (b:Nat)
 |MT (b:Nat)
 |N4 (b:Nat) (e:TypeId)
 |rj (b:Nat)
 |nr (b:Nat)
 |oY (c:Nat) (p:Path) (d:Nat)
 |eQ (b:Nat)
 |A5 (b:Nat)
 |rp (c:Nat) (p:Path)
 |N5 (b:Nat)
def Gh.go(σ:St):Gh→Option St
 | .D0 ts bs=>some ⟨ud ts 0 σ.tm,zz bs 0 σ.hp,σ.df⟩
 |
  .MK s t=>match σ.tm[s]? with
  |
   some x=>match x.bB t with
   |some y=>some {σ with tm:=σ.tm.set s (.val t y)}
   |none=>none
  |none=>none
 |
  .F3 b=>match σ.hp[b]? with
  |
   some (some (.var t v))=>match v.bB t with
   |some y=>some {σ with hp:=σ.hp.set b (some (.var t (.val t y)))}
   |none=>none
  |
   some (some (.cI e bs t xs i v))=>match v.bB t with
   |some y=>some {σ with hp:=σ.hp.set b (some (.cI e bs t xs i (.val t y)))}
   |none=>none
  |some (some (.kB k v rest (some _)))=>some {σ with hp:=σ.hp.set b (some (.kB k v rest none))}
  |_=>none
 | .freeze b t=>Ax.freeze b t σ
 | .ren b b'=>rename b b' σ
 | .yn s b e bs t=>Ax.yn s b e bs t σ
 | .sP c p b e bs t=>Ax.sP c p b e bs t σ
 | .k9 b=>Ax.k9 b σ
 | .MT b=>Ax.MT b σ
 | .N4 b e=>Ax.N4 b e σ
 | .rj b=>Ax.rj b σ
 | .nr b=>Ax.nr b σ
 | .oY c p d=>Ax.oY c p d σ
 | .eQ b=>pM b σ
 | .A5 b=>nv b σ
 | .rp c p=>Ax.rp c p σ
 | .N5 b=>Ax.N5 b σ
def W3:List Gh→St→Option St
 |[],σ=>some σ
 |
  g::l,σ=>match g.go σ with
  |some σ'=>W3 l σ'
  |none=>none
theorem Gh.ok{gl:Ctx}{g:Gh}(h:g.go σ=some σ'):Wk gl σ σ':=by
 cases g with
 |D0 ts bs=>cases h;exact Wk.D0 gl σ ts bs
 |
  MK s t=>
  grind [Gh.go,Wk.MK]
 |
  F3 b=>
  grind [Gh.go,Wk.F3,Wk.adv,Wk.mcl]
 |freeze b t=>exact Wk.freeze h
 |ren b b'=>exact Wk.rename h
 |yn s b e bs t=>exact Wk.yn h
 |sP c p b e bs t=>exact Wk.sP h
 |k9 b=>exact Wk.k9 h
 |MT b=>exact Wk.MT h
 |N4 b e=>exact Wk.N4 h
 |rj b=>exact Wk.rj h
 |nr b=>exact Wk.nr h
 |oY c p d=>exact Wk.oY h
 |eQ b=>exact Wk.pM h
 |A5 b=>exact Wk.nv h
 |rp c p=>exact Wk.rp h
 |N5 b=>exact Wk.N5 h
theorem F8{gl:Ctx}:∀{l:List Gh}{σ σ':St},W3 l σ=some σ'→Wk gl σ σ'
 |[],σ,σ',h=>by cases h;exact Wk.refl gl σ
 |
  g::l,σ,σ',h=>by
  simp only[W3] at h
  split at h
  ·rename_i σ1 h1;exact(Gh.ok h1).trans (F8 h)
  ·cases h
section
variable{P:Program} {gl:Ctx} {σ:St} {Q:fQ→St→Prop}
theorem cJ.wk{c:Code}{σ':St}(h:Wk gl σ σ')(hr:cJ P gl c σ' Q):cJ P gl c σ Q:=by
 intro E a w hg
 obtain⟨E1,g1,x1⟩:=h E a w hg
 refine wpIn_mono (hr E1 a w g1) ?_
 rintro ex a2 w2 ⟨x,σ2,E2,h1,h2,h3,h4⟩
 exact⟨x,σ2,E2,h1,h2,h3,x1.trans h4⟩
theorem cJ.post{c:Code}{Q':fQ→St→Prop}(hr:cJ P gl c σ Q')(hn:∀e σ',e≠.normal→Q' e σ'→Q e σ')(h:∀σ',Q' .normal σ'→∃σ2,Wk gl σ' σ2∧Q .normal σ2):cJ P gl c σ Q:=by
 intro E a w hg
 refine wpIn_mono (hr E a w hg) ?_
 rintro ex a2 w2 ⟨x,σ2,E2,h1,h2,h3,h4⟩
 by_cases e:x= .normal
 ·subst e
  obtain⟨σ3,h5,h6⟩:=h σ2 h2
  obtain⟨E3,g3,x3⟩:=h5 E2 a2 w2 h3
  exact⟨.normal,σ3,E3,by cases ex<;>first|exact h1|exact h1.elim,h6,g3,h4.trans x3⟩
 ·exact⟨x,σ2,E2,h1,hn x σ2 e h2,h3,h4⟩
theorem cJ.gh{c:Code}(l:List Gh){σ':St}(h:W3 l σ=some σ')(hr:cJ P gl c σ' Q):cJ P gl c σ Q:=cJ.wk (F8 h) hr
end
structure Cl(gl:Ctx)(Q:fQ→St→Prop):Prop where
 n:∀σ σ',Wk gl σ σ'→Q .normal σ'→Q .normal σ
 e:∀i σ σ',Wk gl σ σ'→Q (.exit i) σ'→Q (.exit i) σ
theorem bK{p:Prop}[Decidable p]{k:Option α}{r:α}(h:(if p then k else none)=some r):p∧k=some r:=by
 grind
theorem bind_some{α β:Type}{x:Option α}{f:α→Option β}{r:β}(h:x.bind f=some r):∃y,x=some y∧f y=some r:=by
 cases x<;>grind
inductive cL(β ρ:Type) where
 |brk (b:β)
 |ret (r:ρ)
def nw{α:Type}:List (Nat×α)→List α→List α
 |[],l=>l
 |(i,x)::m,l=>nw m (l.set i x)
def iB:Nat:=18446744073709551616
abbrev bq(n:Int):Int:=IntKind.i64.wrap n
def nth(t:Ty)(xs:List t.den)(i:Int):t.den:=xs.getD i.toNat t.aD
end Go.Ax
