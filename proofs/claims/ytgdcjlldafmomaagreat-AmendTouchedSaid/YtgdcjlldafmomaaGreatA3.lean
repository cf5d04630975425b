/- The machines: what it means to be walked or run, part 3. No condition. -/
import Derived.Test.YtgdcjlldafmomaaGreatA2
import Derived.Laws.IdiomRangeMap
namespace Go.Ax
section
variable{P:Program} {G:bO} (T:bD P G) {E:Env} {w:World} {α:Type} {kt:Ty}
def RK(E:Env)(w:World)(kt:Ty):List MapEntry→List (kt.den×α)→Prop
 |[],[]=>True
 |e::es,x::xs=>cC E w (.val kt x.1) e.key∧RK E w kt es xs
 |_,_=>False
theorem RK.at:∀{es:List (kt.den×α)}{en:List MapEntry},en.length=es.length→(∀(i:Nat) x,es[i]? =some x→∃m,en[i]? =some m∧cC E w (.val kt x.1) m.key)→RK E w kt en es
 |[],[],_,_=>trivial
 |[],_::_,hl,_=>by simp at hl
 |_::_,[],hl,_=>by simp at hl
 |
  x::es,m::en,hl,h=>by
  obtain⟨u,h1,h2⟩:=h 0 x rfl
  simp at h1;subst h1
  exact⟨h2,RK.at (by simpa using hl) (fun i y hy=>by simpa using h (i+1) y (by simpa using hy))⟩
def vb(l:List MapEntry)(i0:Nat):Option (Nat×α)→Option (Nat×Value)→Prop
 |none,none=>True
 |some x,some y=>x.1=y.1∧i0≤x.1∧∃e,l[x.1 -i0]? =some e∧e.val=y.2
 |_,_=>False
theorem vb.up{e:MapEntry}{l:List MapEntry}{i:Nat}{x:Option (Nat×α)}{y:Option (Nat×Value)}(h:vb l (i+1) x y):vb (e::l) i x y:=by
 cases x with
 |
  none=>cases y with
  |none=>trivial
  |some _=>trivial
 |
  some x=>cases y with
  |none=>trivial
  |
   some y=>
   obtain⟨h1,h2,m,h3,h4⟩:=h
   refine⟨h1,by omega,m,?_,h4⟩<;>grind
include T in
theorem qO{t:TypeId}{td:TD}(ht:G.at t=some td)(he:iL P G 40 t td.ty=true){k:td.ty.den}{v:Value}(hv:cC E w (.val td.ty k) v):∀{l:List MapEntry}{es:List (td.ty.den×α)}(i:Nat),RK E w td.ty l es→
 ∃r,(Instr.findAsking t v l i).run P w= .ok r w∧vb l i (dF td.ty k es i) r
 |[],[],i,_=>⟨none,by trivial,trivial⟩
 |[],_::_,_,h=>h.elim
 |_::_,[],_,h=>h.elim
 |
  e::l,x::es,i,⟨h1,h3⟩=>by
  have hq:(Op.equal t v e.key).run P w= .ok (aY td.ty k x.1) w:=sr T (E:=E) (w:=w) (Op.maxDepth -40) 40 t td ht he k x.1 v e.key hv h1
  cases hb:aY td.ty k x.1 with
  |true=>exact⟨some (i,e.val),by simp[Instr.findAsking,hq,hb],by simp only[dF,hb,bH];exact⟨rfl,cL _,e,by simp,rfl⟩⟩
  |
   false=>
   obtain⟨r,r1,r2⟩:=qO ht he hv (i+1) h3
   exact⟨r,by simp[Instr.findAsking,hq,hb,r1],by simp only[dF,hb];exact r2.up⟩
theorem yX{d:TypeDesc}{k:kt.den}{v:Value}(hv:cC E w (.val kt k) v):∀{l:List MapEntry}{es:List (kt.den×α)}(i:Nat){r:Option (Nat×Value)},RK E w kt l es→Instr.findNow d v l i=some r→vb l i (dF kt k es i) r
 |[],[],i,r,_,h=>by simp[Instr.findNow] at h;subst h;trivial
 |[],_::_,_,_,h,_=>h.elim
 |_::_,[],_,_,h,_=>h.elim
 |
  e::l,x::es,i,r,⟨h1,h3⟩,h=>by
  simp only[Instr.findNow] at h
  split at h
  ·rename_i hs
   have:=lb hv h1 hs
   cases h
   simp only[dF,←this,bH];exact⟨rfl,cL _,e,by simp,rfl⟩
  ·rename_i hs
   have:=lb hv h1 hs
   simp only[dF,←this,cJ,bY]
   exact(yX hv (i+1) h3 h).up
  ·cases h
include T in
theorem yY{t:TypeId}{td:TD}(ht:G.at t=some td)(he:iL P G 40 t td.ty=true){k:td.ty.den}{v:Value}(hv:cC E w (.val td.ty k) v){l:List MapEntry}{es:List (td.ty.den×α)}(h:RK E w td.ty l es):
 ∃r,(Instr.findKey t v l).run P w= .ok r w∧vb l 0 (dF td.ty k es 0) r:=by
 obtain⟨ii,dd,_,hu,_⟩:=T.info ht
 unfold Instr.findKey
 simp only[Sem.run_bind,run_underlying hu,Result.andThen_ok]
 split
 ·rename_i r hr
  exact⟨r,rfl,yX hv 0 h hr⟩
 ·exact qO T ht he hv 0 h
end
theorem nC{α:Type}{kt:Ty}(hk:kt.keyed=true){k:kt.den}:∀{es:List (kt.den×α)}{i j:Nat}{y:α},dF kt k es i=some (j,y)→i≤j∧es[j -i]? =some (k,y)
 |[],i,j,y,h=>by trivial
 |
  x::es,i,j,y,h=>by
  simp only[dF] at h
  split at h
  ·rename_i hb
   cases h
   simp_all[cm]
  ·obtain⟨h1,h2⟩:=nC hk h
   grind
theorem nD{α:Type}{kt:Ty}(hk:kt.keyed=true){k:kt.den}:∀{es:List (kt.den×α)}{i:Nat},dF kt k es i=none→k∉es.map (·.1)
 |[],i,h=>by simp
 |
  x::es,i,h=>by
  simp only[dF] at h
  split at h
  ·cases h
  ·rename_i hb
   have h2:=nD hk h
   simp_all[cm]
theorem w6{α:Type}{kt:Ty}(hk:kt.keyed=true){k:kt.den}{y:α}:∀{es:List (kt.den×α)}{i:Nat}{z:α},(es.map (·.1)).Nodup→es[i]? =some (k,z)→bB kt k y es=es.set i (k,y)
 |[],i,z,_,h=>by simp at h
 |
  x::es,0,z,_,h=>by
  simp_all[bB,cm]
 |
  x::es,i+1,z,hn,h=>by
  simp only[sH] at h
  simp only[dC,mX] at hn
  have hne:aY kt k x.1=false:=by
   cases hb:aY kt k x.1 with
   |false=>rfl
   |
    true=>
    have e:=(cm hk _ _).1 hb
    exact absurd (List.mem_map.2 ⟨_,lP h,e⟩) hn.1
  simp only[bB,hne,List.set_cons_succ]
  rw[w6 hk hn.2 h];rfl
theorem lY{α:Type}{kt:Ty}(hk:kt.keyed=true){k:kt.den}{y:α}:∀{es:List (kt.den×α)},k∉es.map (·.1)→bB kt k y es=es++[(k,y)]
 |[],_=>rfl
 |
  x::es,h=>by
  simp only[dC,fe,not_or] at h
  have hne:aY kt k x.1=false:=by
   cases hb:aY kt k x.1 with
   |false=>rfl
   |true=>exact absurd ((cm hk _ _).1 hb) h.1
  simp only[bB,hne]
  rw[lY hk h.2];rfl
theorem w7{α:Type}{kt:Ty}{k:kt.den}{es:List (kt.den×α)}(hn:(es.map (·.1)).Nodup){i j:Nat}{y z:α}(h1:es[i]? =some (k,y))(h2:es[j]? =some (k,z)):i=j:=by
 have hi:i<(es.map (·.1)).length:=by grind
 have e1:(es.map (·.1))[i]? =some k:=by grind
 have e2:(es.map (·.1))[j]? =some k:=by grind
 grind [List.getElem?_inj]
theorem eo{α:Type}{kt:Ty}(hk:kt.keyed=true){k:kt.den}:∀{es:List (kt.den×α)},ck kt k es=true↔k∈es.map (·.1)
 |[]=>by simp[ck]
 |
  x::es=>by
  simp only[ck,fN,dC,fe,eo hk,cm hk]
end Go.Ax
namespace Go.Ax
def Ty.Is:Ty→Bool
 | .map _ _| .slice _ _=>true
 |_=>false
def Ty.uI:Ty→Bool
 | .map _ _=>true
 |_=>false
theorem w8{P:Program}{G:bO}(T:bD P G){t:TypeId}{td:TD}(ht:G.at t=some td)(hs:td.ty.Is=true)(w:World):(zeroValue t).run P w= .ok (zeroV td.ty) w:=by
 obtain⟨z,z1,z2,z3⟩:=T.zero ht w
 rw[z1]
 congr 1
 cases hty:td.ty with
 |
  slice bs u=>
  rw[hty] at z2 z3
  cases z with
  |agg cs=>trivial
  |
   slice a n c=>
   have z2:isZero (.slice bs u) (.slice a n c)=true:=z2
   cases a with
   |some _=>trivial
   |
    none=>
    simp only[isZero,aV] at z2
    have e1:=bR z2.1.2;have e2:=bR z2.2
    subst e1;subst e2;rfl
  |_=>trivial
 |
  map k u=>
  rw[hty] at z2 z3
  cases z with
  |agg cs=>trivial
  |
   map a=>
   have z2:isZero (.map k u) (.map a)=true:=z2
   cases a with
   |some _=>trivial
   |none=>rfl
  |_=>trivial
 |_=>rw[hty] at hs;trivial
theorem cW.SZ{w:World}{S:Nat→Prop}{e:TypeId}{t:Ty}{v:Value}{og:Option Nat}{x:t.den}(ht:t.uI=true)(h:cW w S e t v og x):∃g,v= .map (some g):=by
 cases t with
 |map k u=>obtain⟨es',_,_,_,gg,_,_,_,e,_⟩:=h;grind
 |_=>cases ht
theorem vf{t:Ty}(ht:t.uI=true):zeroV t= .map none:=by
 cases t with
 |map k u=>rfl
 |_=>cases ht
theorem Fk{t:Ty}(ht:t.uI=true):t.Is=true:=by
 cases t with
 |map k u=>rfl
 |_=>cases ht
def oE(P:Program)(G:bO)(hb:Nat→Option aN)(t:TypeId)(x i:AV):Option (AV×List VC):=
 match ld G t,x with
 |
  some (ke,_,kt,vt),.mp b=>match hb b with
  |some (.pmap k u es _ f)=>if h:Ty.same k kt=true∧Ty.same u vt=true then(match i.bK kt,f with
   |some k',some (kx,v,_)=>if i.plain&&v.plain&& !v.isAgg&&u.Is then some (v,[vc (iL P G 40 ke kt=true),vc (aY kt k' (Ty.aB h.1▸kx:kt.den)=true)]) else none
   |some k',none=>if i.plain&&u.uI then some (.nq (!(ck kt k' (Ty.aB h.1▸es:List (kt.den×u.den)))),[vc (iL P G 40 ke kt=true)]) else none
   |_,_=>none) else none
  |_=>none
 |_,_=>none
theorem mr{P:Program}{G:bO}(T:bD P G){E:Env}{w:World}{b:Nat}{ke:TypeId}{kd:TD}{vt:Ty}{es:List (kd.ty.den×vt.den)}{e2:TypeId}{f:Option (kd.ty.den×AV×Bool)}(hk:kd.ty.keyed=true)(h4:G.at ke=some kd)(he:iL P G 40 ke kd.ty=true)
 (hrb:RB E w b (.pmap kd.ty vt es e2 f)) {k':kd.ty.den} {vi:Value} (hkv:cC E w (.val kd.ty k') vi):
 ∃g en clock r,E.g b=some g∧w.heap[g]? =some (.map en clock)∧(∀em,(Instr.checkKey em 10000 ke vi).run P w= .ok () w)∧(Instr.findKey ke vi en.toList).run P w= .ok r w∧
  ((r=none∧k'∉es.map (·.1))∨∃i y m,r=some (i,m.val)∧es[i]? =some (k',y)∧en[i]? =some m):=by
 obtain⟨h1,h2,h3,g,en,clock,og,q1,q2,q3,q4,q5,q6,q7,q8⟩:=hrb
 have hrk:RK E w kd.ty en.toList es:=RK.at (by grind) (fun i x hx=>by
  grind)
 obtain⟨r,r1,r2⟩:=yY T h4 he hkv hrk
 refine⟨g,en,clock,r,q1,q2,fun em=>iG T (E:=E) (w:=w) em 9960 40 ke kd h4 he k' vi hkv,r1,?_⟩
 cases hf:dF kd.ty k' es 0 with
 |
  none=>
  rw[hf] at r2
  cases r with
  |none=>exact Or.inl ⟨rfl,nD hk hf⟩
  |some _=>trivial
 |
  some p=>
  obtain⟨i,y⟩:=p
  rw[hf] at r2
  cases r with
  |none=>trivial
  |
   some q=>
   obtain⟨i',u⟩:=q
   obtain⟨e1,_,m,e2,e3⟩:=r2
   simp only[Nat.sub_zero] at e1 e2 e3
   subst e1;subst e3
   have:=(nC hk hf).2
   grind
theorem AX{P:Program}{G:bO}(T:bD P G){gl:Ctx}{E:Env}{w:World}{hp:List (Option aN)}(hw:HW gl E w hp){hb:Nat→Option aN}(hB:HB hb hp){t:TypeId}{x i:AV}{vx vi:Value}(hx:RV E w x vx)(hi:RV E w i vi){r:AV}{vcs:List VC}(h:oE P G hb t x i=some (r,vcs))(hvc:dB vcs):
 ∃v,(Instr.lookup t vx vi false).run P w= .ok v w∧RV E w r v:=by
 unfold oE at h
 split at h
 ·rename_i ke ve kt vt b hm
  obtain⟨hu,hke,_,⟨kd,h4,h5⟩,⟨vd,h6,h7⟩⟩:=iv T hm
  subst h5;subst h7
  split at h
  ·rename_i k u es e2 f hbk
   split at h
   ·rename_i hc
    obtain⟨c1,c2⟩:=hc
    have e1:=Ty.aB c1;subst e1
    have e2':=Ty.aB c2;subst e2'
    have hrb:=hw.cE b _ (hB b _ hbk)
    obtain⟨g0,hg0,ex⟩:=RV.atom rfl hx
    simp at ex;subst ex
    split at h
    ·rename_i k' kx v pr hk'
     split at h
     ·rename_i hpl
      simp only[cX,gJ] at h
      obtain⟨er,ev⟩:=h
      subst ev
      rw[←er]
      simp only[aV,iC] at hpl
      obtain⟨⟨⟨p1,p2⟩,p3⟩,p4⟩:=hpl
      obtain⟨he,hkx,_⟩:=hvc
      have hkx:k'=kx:=(cm hke _ _).1 hkx
      subst hkx
      have hkv:=cC.bK hk' (RV.je p1 hi)
      obtain⟨g,en,clock,r,q1,q2,q3,q4,q5⟩:=mr T hke h4 he hrb hkv
      rw[q1] at hg0
      have hg0:=kf hg0
      subst hg0
      have ac2:(getObj g).run P w= .ok (.map en clock) w:=by simp[getObj,Sem.run,q2]
      obtain⟨z1,z2,z3,g',en',acZ,og,y1,y2,y3,y4,y5,y6,y7,y8⟩:=hrb
      rw[q1] at y1;cases y1
      rw[q2] at y2;cases y2
      rcases q5 with⟨e,hn⟩|⟨j,y,m,e,s1,s2⟩
      ·subst e
       refine⟨zeroV vd.ty,by simp only[Instr.lookup,Sem.run_bind,run_underlying hu,Result.andThen_ok,Sem.run_pure,ac2,q3,q4,w8 T h6 p4];rfl,RV.dK (Or.inr ⟨p3,?_⟩)⟩
       cases pr<;>grind
      ·subst e
       obtain⟨m',t1,_,t3,_⟩:=y7 j _ s1
       rw[s2] at t1;cases t1
       exact⟨m.val,by simp only[Instr.lookup,Sem.run_bind,run_underlying hu,Result.andThen_ok,Sem.run_pure,ac2,q3,q4];rfl,RV.dK (Or.inr ⟨p3,(t3 v pr rfl).2⟩)⟩
     grind
    ·rename_i k' hk'
     split at h
     ·rename_i hpl
      cases h
      simp only[aV] at hpl
      obtain⟨p1,p4⟩:=hpl
      obtain⟨he,_⟩:=hvc
      have hkv:=cC.bK hk' (RV.je p1 hi)
      obtain⟨g,en,clock,r,q1,q2,q3,q4,q5⟩:=mr T hke h4 he hrb hkv
      rw[q1] at hg0
      have hg0:=kf hg0
      subst hg0
      have ac2:(getObj g).run P w= .ok (.map en clock) w:=by simp[getObj,Sem.run,q2]
      obtain⟨z1,z2,z3,g',en',acZ,og,y1,y2,y3,y4,y5,y6,y7,y8⟩:=hrb
      rw[q1] at y1;cases y1
      rw[q2] at y2;cases y2
      have hz:=w8 T h6 (Fk p4) w
      rcases q5 with⟨e,hn⟩|⟨j,y,m,e,s1,s2⟩
      ·subst e
       refine⟨zeroV vd.ty,by simp only[Instr.lookup,Sem.run_bind,run_underlying hu,Result.andThen_ok,Sem.run_pure,ac2,q3,q4,hz];rfl,RV.dK (Or.inr ⟨rfl,none,by rw[vf p4],?_⟩)⟩
       grind [eo]
      ·subst e
       obtain⟨m',t1,_,_,t4⟩:=y7 j _ s1
       rw[s2] at t1;cases t1
       obtain⟨gg,hmv⟩:=(t4 (fun v pr hv=>by cases hv)).SZ p4
       refine⟨m.val,by simp only[Instr.lookup,Sem.run_bind,run_underlying hu,Result.andThen_ok,Sem.run_pure,ac2,q3,q4];rfl,RV.dK (Or.inr ⟨rfl,some gg,by rw[hmv],?_⟩)⟩
       have hm:ck kd.ty k' es=true:=(eo hke).2 (List.mem_map.2 ⟨_,lP s1,rfl⟩)
       grind
     grind
    grind
   grind
  grind
 grind
end Go.Ax
namespace Go.Ax
def nj(kt vt:Ty)(kx:kt.den)(es:List (kt.den×vt.den)):Bool→List (kt.den×vt.den)
 |true=>es
 |false=>bB kt kx vt.aD es
def AY(P:Program)(G:bO)(hb:Nat→Option aN)(t:TypeId)(x k v:AV):Option fh:=
 match ld G t,x with
 |
  some (ke,_,kt,vt),.mp b=>match hb b with
  |some (.pmap k0 u es e2 (some (kx,_,pr)))=>if h:Ty.same k0 kt=true∧Ty.same u vt=true then(match k.bK kt with
   |some k'=>if k.plain&&v.plain&& !v.isAgg&&v.cp u then some ⟨.bot,[(b,some (.pmap k0 u (nj k0 u kx es pr) e2 (some (kx,v,true))))],[],[vc (iL P G 40 ke kt=true),vc (aY kt k' (Ty.aB h.1▸kx:kt.den)=true),vc (es.length+1≤aE)]⟩ else none
   |none=>none) else none
  |_=>none
 |_,_=>none
theorem qP{en:Array MapEntry}{i:Nat}{f:MapEntry→MapEntry}(hf:∀e,(f e).born=e.born):(en.modify i f).toList.map (·.born)=en.toList.map (·.born):=by
 rw[Array.toList_modify]
 apply List.ext_getElem?
 grind
theorem C1{E:Env}{w:World}{b:Nat}{kt vt:Ty}{es:List (kt.den×vt.den)}{e2:TypeId}{v0 v:AV}{pr:Bool}{kx:kt.den}(hke:kt.keyed=true)(hrb:PM E w b kt vt es e2 (some (kx,v0,pr))){g:Nat}{en:Array MapEntry}{clock:Nat}(q1:E.g b=some g)(q2:w.heap[g]? =some (.map en clock))(hn:kx∉es.map (·.1))
 {vk vv:Value} (hkv:cC E w (.val kt kx) vk) (hvv:RC E w v [vv]) (hc:v.cp vt=true) (hlen:es.length+1≤aE) (kpo:∀o,bJ E w E (w.putObj g o)):
 pr=false∧es.length=en.size∧PM E (w.putObj g (.map (en.push {key:=vk,val:=vv,born:=clock}) (clock+1))) b kt vt (bB kt kx vt.aD es) e2 (some (kx,v,true)):=by
 obtain⟨z1,z2,z3,g',en',acZ,og,y1,y2,y3,y4,y5,y6,y7,y8⟩:=hrb
 rw[q1] at y1;cases y1
 rw[q2] at y2;cases y2
 have hlt:g<w.heap.size:=(Array.getElem?_eq_some_iff.1 q2).1
 have sub:∀o j(t:Ty)(u:Value)(x:t.den),cW w E.S e2 t u (og j) x→cW (w.putObj g o) E.S e2 t u (og j) x:=fun o j t u x hs=>
  cW.mono (kpo o).w (kpo o).S (fun gg hgg=>World.putObj_heap_other (y5.own j gg hgg).2) hs
 have hpr:pr=false:=by
  cases pr<;>grind
 refine⟨hpr,y6.symm,?_⟩
 have hes:bB kt kx vt.aD es=es++[(kx,vt.aD)]:=lY hke hn
 refine⟨dX hke z1,cG dr hlen,fun kx' v' pr' hv'=>by grind,g,_,_,fun j=>if j=es.length then none else og j,q1,World.putObj_heap_same hlt,?_,?_,⟨?_,?_⟩,?_,?_,?_⟩
 ·grind
 ·grind
 ·intro j u hj
  have hj:(if j=es.length then none else og j)=some u:=hj
  split at hj
  ·cases hj
  ·exact y5.own j u hj
 ·intro j j' u hj hj'
  have hj:(if j=es.length then none else og j)=some u:=hj
  have hj':(if j'=es.length then none else og j')=some u:=hj'
  split at hj
  ·cases hj
  ·split at hj'
   ·cases hj'
   ·exact y5.inj j j' u hj hj'
 ·grind
 ·rw[hes]
  intro j x hx
  by_cases hj:j<es.length
  ·rw[List.getElem?_append_left hj] at hx
   obtain⟨m,t1,t2,t3,t4⟩:=y7 j x hx
   have hne:j≠es.length:=by omega
   have hxk:x.1≠kx:=fun e=>hn (List.mem_map.2 ⟨x,lP hx,e⟩)
   refine⟨m,by rw[Array.getElem?_push_lt (by rw[y6];exact hj)];have t1:=t1;rw[Array.getElem?_eq_getElem (by rw[y6];exact hj)] at t1;exact t1,cC.mono (kpo _) (fun _ hb=>by cases hb) t2,fun v' pr' hv'=>(by cases hv';exact absurd rfl hxk),fun _=>?_⟩<;>grind
  ·have hj2:j=es.length:=by
    grind
   subst hj2
   simp at hx;subst hx
   refine⟨{key:=vk,val:=vv,born:=clock},by grind,cC.mono (kpo _) (fun _ hb=>by cases hb) hkv,fun v' pr' hv'=>?_,fun hv'=>absurd rfl (hv' v true)⟩
   cases hv'
   exact⟨aA rfl,RC.mono (kpo _) (fun _ _=>⟨rfl,rfl,rfl⟩) hvv⟩
 grind
theorem AZ{E:Env}{w:World}{b:Nat}{kt vt:Ty}{es:List (kt.den×vt.den)}{e2:TypeId}{v0 v:AV}{pr:Bool}{kx:kt.den}(hke:kt.keyed=true)(hrb:PM E w b kt vt es e2 (some (kx,v0,pr))){g:Nat}{en:Array MapEntry}{clock:Nat}(q1:E.g b=some g)(q2:w.heap[g]? =some (.map en clock))
 {i:Nat} {y:vt.den} {m:MapEntry} (s1:es[i]? =some (kx,y)) (s2:en[i]? =some m) (f:MapEntry→MapEntry) (hf:∀e,(f e).born=e.born) (hkv:cC E w (.val kt kx) (f m).key) (hvv:RC E w v [(f m).val]) (hc:v.cp vt=true) (kpo:∀o,bJ E w E (w.putObj g o)):
 (∃y',nj kt vt kx es pr=es.set i (kx,y'))∧cC E w (.val kt kx) m.key∧RC E w v0 [m.val]∧PM E (w.putObj g (.map (en.modify i f) clock)) b kt vt (nj kt vt kx es pr) e2 (some (kx,v,true)):=by
 obtain⟨z1,z2,z3,g',en',acZ,og,y1,y2,y3,y4,y5,y6,y7,y8⟩:=hrb
 rw[q1] at y1;cases y1
 rw[q2] at y2;cases y2
 have hlt:g<w.heap.size:=(Array.getElem?_eq_some_iff.1 q2).1
 have sub:∀o j(t:Ty)(u:Value)(x:t.den),cW w E.S e2 t u (og j) x→cW (w.putObj g o) E.S e2 t u (og j) x:=fun o j t u x hs=>
  cW.mono (kpo o).w (kpo o).S (fun gg hgg=>World.putObj_heap_other (y5.own j gg hgg).2) hs
 obtain⟨m',t1,t2,t3,t4⟩:=y7 i _ s1
 rw[s2] at t1;cases t1
 have hi:i<es.length:=(List.getElem?_eq_some_iff.1 s1).1
 have hog:og i=none:=(t3 v0 pr rfl).1
 have hes:∃y',nj kt vt kx es pr=es.set i (kx,y'):=by
  cases pr with
  |
   true=>
   refine⟨y,?_⟩
   show es=_
   apply List.ext_getElem?
   grind
  |false=>exact⟨vt.aD,w6 hke z1 s1⟩
 refine⟨hes,t2,(t3 v0 pr rfl).2,?_⟩
 obtain⟨y',hes⟩:=hes
 have hnd:((nj kt vt kx es pr).map (·.1)).Nodup:=by
  cases pr with
  |true=>exact z1
  |false=>exact dX hke z1
 refine⟨hnd,by grind,fun kx' v' pr' hv'=>by grind,g,_,_,og,q1,World.putObj_heap_same hlt,?_,?_,y5,?_,?_,?_⟩
 ·intro x hx
  have hb:x.born∈(en.modify i f).toList.map (·.born):=List.mem_map.2 ⟨x,hx,rfl⟩
  grind [qP]
 ·rw[qP hf];exact y4
 ·grind
 ·rw[hes]
  intro j x hx
  rw[dm] at hx
  by_cases hne:i=j
  ·subst hne
   rw[aA rfl,aA hi] at hx
   cases hx
   refine⟨f m,by grind,cC.mono (kpo _) (fun _ hb=>by cases hb) hkv,fun v' pr' hv'=>?_,fun hv'=>absurd rfl (hv' v true)⟩
   cases hv'
   exact⟨hog,RC.mono (kpo _) (fun _ _=>⟨rfl,rfl,rfl⟩) hvv⟩
  ·rw[aC hne] at hx
   obtain⟨m2,t1,t2,t3,t4⟩:=y7 j x hx
   have hxk:x.1≠kx:=fun e=>by
    grind [w7]
   refine⟨m2,by rw[Array.getElem?_modify,aC hne];exact t1,cC.mono (kpo _) (fun _ hb=>by cases hb) t2,fun v' pr' hv'=>(by cases hv';exact absurd rfl hxk),fun _=>?_⟩<;>grind
 ·intro kx' v'
  refine⟨fun hf=>(by cases hf),fun hf=>?_⟩
  cases hf
  rw[hes]
  exact List.mem_map.2 ⟨(kx,y'),lP (i:=i) (by grind),rfl⟩
theorem D3{P:Program}{G:bO}(T:bD P G){gl:Ctx}{σ:St}{E:Env}{a:Act}{w:World}(h:bW gl σ E a w){hb:Nat→Option aN}(hB:HB hb σ.hp){t:TypeId}{x k v:AV}{vx vk vv:Value}(hx:RV E w x vx)(hk:RV E w k vk)(hv:RV E w v vv){r:fh}(he:AY P G hb t x k v=some r)(hvc:dB r.vc):
 ∃w',(Instr.mapUpdate t vx vk vv).run P w= .ok () w'∧bW gl {σ with hp:=aQ σ.hp r.hw} E a w'∧RV E w' r.v undef∧Ext gl.md (Own σ.hp E) E w (Own (aQ σ.hp r.hw) E) E w':=by
 unfold AY at he
 split at he
 ·rename_i ke ve kt vt b hm
  obtain⟨hu,hke,_,⟨kd,h4,h5⟩,⟨vd,h6,h7⟩⟩:=iv T hm
  subst h5;subst h7
  split at he
  ·rename_i k0 u es e2 kx v0 pr hbk0
   split at he
   ·rename_i hc
    obtain⟨c1,c2⟩:=hc
    have e1:=Ty.aB c1;subst e1
    have e2':=Ty.aB c2;subst e2'
    split at he
    ·rename_i k' hk'
     split at he
     ·rename_i hpl
      cases he
      simp only[aV,iC] at hpl
      obtain⟨⟨⟨p1,p2⟩,p3⟩,p4⟩:=hpl
      obtain⟨he,hkx,hlen,_⟩:=hvc
      have hkx:k'=kx:=(cm hke _ _).1 hkx
      subst hkx
      have hkv:cC E w (.val kd.ty k') vk:=cC.bK hk' (RV.je p1 hk)
      have hvv:RC E w v [vv]:=by
       rcases RV.je p2 hv with⟨hh,_⟩|⟨_,hh⟩<;>grind
      have hbk:=hB b _ hbk0
      have hrb:=h.hw.cE b _ hbk
      obtain⟨g0,hg0,ex⟩:=RV.atom rfl hx
      simp at ex;subst ex
      obtain⟨g,en,clock,r,q1,q2,q3,q4,q5⟩:=mr T hke h4 he hrb hkv
      rw[q1] at hg0
      have hg0:=kf hg0
      subst hg0
      have ac2:(getObj g).run P w= .ok (.map en clock) w:=by simp[getObj,Sem.run,q2]
      have aQ:∀o,(setObj g o).run P w= .ok () (w.putObj g o):=fun o=>by simp[setObj,Sem.run,q2,World.putObj]
      have kpo:∀o,bJ E w E (w.putObj g o):=fun o=>⟨fun i hi=>World.putObj_heap_other (fun e=>h.hw.jF b _ g hbk q1 (e▸hi)),fun _ h=>h⟩
      have key:∃en' acZ,(Instr.mapUpdate t (.map (some g)) vk vv).run P w= .ok () (w.putObj g (.map en' acZ))∧RB E (w.putObj g (.map en' acZ)) b (.pmap kd.ty vd.ty (nj kd.ty vd.ty k' es pr) e2 (some (k',v,true))):=by
       rcases q5 with⟨e,hn⟩|⟨i,y,m,e,s1,s2⟩
       ·subst e
        obtain⟨hpr,_,hpm⟩:=C1 hke hrb q1 q2 hn hkv hvv p4 hlen kpo
        subst hpr
        exact⟨_,_,by simp_all[Instr.mapUpdate,run_underlying],hpm⟩
       ·subst e
        obtain⟨_,t2,_,hpm⟩:=AZ hke hrb q1 q2 s1 s2 (fun e=>{e with key:=vk,val:=vv}) (fun _=>rfl) hkv hvv p4 kpo
        obtain⟨f1,f2⟩:=cC.fn hke t2 hkv
        have hold:((en[i]?).map (·.key)).getD vk=m.key:=by grind
        have hstay:(Instr.keyThatStays (((en[i]?).map (·.key)).getD vk) vk).run P w= .ok vk w:=by
         simp_all[Instr.keyThatStays]
        exact⟨_,_,by simp_all[Instr.mapUpdate,run_underlying],hpm⟩
      obtain⟨en',acZ,k1,hrb2⟩:=key
      have kp:=kpo (.map en' acZ)
      have hw2:=h.hw.write hbk (by simp) (fun i hi=>World.putObj_heap_other (fun e=>hi (by grind))) hrb2
      refine⟨_,k1,h.carry kp (fun _ _=>⟨rfl,rfl,rfl⟩) hw2,trivial,⟨rfl,Tp.r rfl rfl,rfl,by simp,?_,fun _ h=>h,fun _ h=>Or.inl h,fun i hi=>Or.inl (Own.lU hbk hi),fun _ _=>⟨rfl,rfl,rfl⟩⟩⟩
      intro i hi ho
      exact World.putObj_heap_other (fun e=>ho ⟨b,_,hbk,by rw[e];exact Or.inl q1⟩)
     grind
    grind
   grind
  grind
 grind
end Go.Ax
namespace Go.Ax
def tj(P:Program)(G:bO)(op:Op)(ev:Operand→AV)(hb:Nat→Option aN):Option fh:=
 match op with
 | .lookup t x i false=>(oE P G hb t (ev x) (ev i)).map .He
 | .mapUpdate t x k v=>AY P G hb t (ev x) (ev k) (ev v)
 |_=>none
theorem Fl{P:Program}{G:bO}(T:bD P G){gl:Ctx}{σ:St}{E:Env}{a:Act}{w:World}(h:bW gl σ E a w){o:Oper}{ev:Operand→AV}{hb:Nat→Option aN}(hB:HB hb σ.hp){r:fh}
 (hev:∀x∈o.op.operands.toList,RV E w (ev x) (a.eval x)) (he:tj P G o.op ev hb=some r) (hvc:dB r.vc):bS P gl σ E a w o r:=by
 unfold tj at he
 split at he
 ·rename_i t x i hop
  obtain⟨⟨u,vc⟩,hu,rfl⟩:=Option.map_eq_some_iff.1 he
  obtain⟨v,h1,h2⟩:=AX T h.hw hB (hev x (by simp[hop,Op.operands])) (hev i (by simp[hop,Op.operands])) hu hvc
  exact bS.same h (v:=v) (by simp[execOp,hop,h1]) h2
 ·rename_i t x k v hop
  obtain⟨w',h1,h2,h3,h4⟩:=D3 T h hB (hev x (by simp[hop,Op.operands])) (hev k (by simp[hop,Op.operands])) (hev v (by simp[hop,Op.operands])) he hvc
  exact⟨_,undef,w',E,by simp[execOp,hop,h1],Or.inr ⟨rfl,rfl⟩,h2,h3,h4⟩
 grind
end Go.Ax
namespace Go.Ax
def w9(G:bO)(d:Nat)(t:TypeId)(x:AV):Option fh:=
 match ld G t with
 |
  some (_,_,kt,vt)=>match x with
  | .val (.map k v) y=>some ⟨.ptr d [],[(d,some (.lB k v (bM y) none))],[d],[]⟩
  | .dP=>some ⟨.ptr d [],[(d,some (.lB kt vt [] none))],[d],[]⟩
  |_=>none
 |none=>none
def xa(hb:Nat→Option aN)(x:AV):Option AV:=
 match x with
 |
  .ptr b []=>match hb b with
  |some (.lB k v _ (some c))=>some (.gk (.cons (.val k c.1) (.cons (.val v c.2) .nil)))
  |_=>none
 |_=>none
theorem D4(en:Array MapEntry):jN en #[]=en:=by simp[jN]
theorem run_entry_at{P:Program}(w:World)(g bm since:Nat)(seen:Array Nat)(es:Array MapEntry)(clock:Nat)(e:MapEntry)(hg:w.heap[g]? =some (.mapIter (some bm) since (seen.push e.born) clock))(hb:w.heap[bm]? =some (.map es clock))(he:e∈es.toList)(hn:(es.toList.map (·.born)).Nodup):
 (Instr.entry (.pointer (some ⟨g,0,none⟩))).run P w= .ok (.tuple #[e.key,e.val]) w:=by
 have hf:es.find? (·.born==e.born)=some e:=by rw[←Array.find?_toList];exact find_born e es.toList hn he
 simp_all[Instr.entry,getObj,Sem.run]
theorem A0{P:Program}{G:bO}(T:bD P G){gl:Ctx}{σ:St}{E:Env}{a:Act}{w:World}(h:bW gl σ E a w){d:Nat}{t:TypeId}{x:AV}{vx:Value}{r:fh}(hx:RV E w x vx)(he:w9 G d t x=some r)(hfr:∀b∈r.fr,σ.fresh b):
 ∃v w' E',(Instr.range t vx).run P w= .ok v w'∧bW gl {σ with hp:=aQ σ.hp r.hw} E' a w'∧RV E' w' r.v v∧Ext gl.md (Own σ.hp E) E w (Own (aQ σ.hp r.hw) E') E' w':=by
 unfold w9 at he
 split at he
 ·rename_i ke ve kt vt hm
  obtain⟨hu,_⟩:=iv T hm
  have nilc:∀(k v:Ty),(∀b∈[d],σ.fresh b)→∃v' w' E',(Instr.range t (.map none)).run P w= .ok v' w'∧bW gl {σ with hp:=aQ σ.hp [(d,some (.lB k v [] none))]} E' a w'∧RV E' w' (.ptr d []) v'∧Ext gl.md (Own σ.hp E) E w (Own (aQ σ.hp [(d,some (.lB k v [] none))]) E') E' w':=by
   intro k v hf
   have hf:=hf d (by simp)
   obtain⟨g1,x1⟩:=h.fresh (w':=w.alloc (.mapIter none 0 #[] 0)) hf (g:=some w.heap.size) (sv:=undef) (t:=.unit) (k:=.lB k v [] none) rfl (Tp.r rfl rfl) rfl (by simp) (fun i hi=>heap_alloc_old w _ hi) (fun i hi=>by grind)
    ⟨w.heap.size,none,0, #[],0,by simp[Env.at],heap_alloc_new w _,Or.inl ⟨rfl,rfl,rfl⟩⟩
   exact⟨_,_,_,run_range_nilMap w t ke ve hu,g1,RV.dK (Or.inr ⟨rfl,w.heap.size,by simp[Env.at],by simp[Env.at,Ty.off],by simp[Env.at,Ty.valid]⟩),x1⟩
  split at he
  ·rename_i k v y
   cases he
   obtain⟨a',e,hr⟩:=RV.atom rfl hx
   simp at e;subst e
   rcases hr with⟨rfl,rfl⟩|⟨es,g,en,clock,rfl,rfl,r1,r2,r3,_,_,r4,r5⟩
   ·exact nilc k v hfr
   ·have hf:=hfr d (by simp)
    have hgl:=h.hw.slt g r1
    have kp:bJ E w (E.at d (some w.heap.size) undef .unit) (w.alloc (.mapIter (some g) clock #[] clock)):=⟨fun b hb=>heap_alloc_old w _ (h.hw.slt b hb),fun b hb=>hb⟩
    obtain⟨g1,x1⟩:=h.fresh (w':=w.alloc (.mapIter (some g) clock #[] clock)) hf (g:=some w.heap.size) (sv:=undef) (t:=.unit) (k:=.lB k v es none) rfl (Tp.r rfl rfl) rfl (by simp) (fun i hi=>heap_alloc_old w _ hi) (fun i hi=>by grind)
     ⟨w.heap.size,some g,clock, #[],clock,by simp[Env.at],heap_alloc_new w _,Or.inr ⟨g,en,rfl,r1,by rw[heap_alloc_old w _ hgl];exact r2,rfl,r4,r5,by grind [D4,RM.mono,RM.of],fun x hx=>by cases hx⟩⟩
    exact⟨_,_,_,run_range_map w t ke ve g en clock hu r2,g1,RV.dK (Or.inr ⟨rfl,w.heap.size,by simp[Env.at],by simp[Env.at,Ty.off],by simp[Env.at,Ty.valid]⟩),x1⟩
  ·cases he
   obtain rfl:vx= .map none:=by have:=RV.atom rfl hx;simpa[RC] using this
   simp_all
  grind
 grind
theorem A1{P:Program}{gl:Ctx}{E:Env}{w:World}{hp:List (Option aN)}(hw:HW gl E w hp){hb:Nat→Option aN}(hB:HB hb hp){x r:AV}{vx:Value}(hx:RV E w x vx)(he:xa hb x=some r):∃v,(Instr.entry vx).run P w= .ok v w∧RV E w r v:=by
 unfold xa at he
 split at he
 ·rename_i b
  split at he
  ·rename_i k v rest c hk
   cases he
   obtain⟨g,om,since,seen,c0,q1,q2,q3⟩:=hw.cE b _ (hB b _ hk)
   obtain⟨g',hg',ev,_⟩:=RV.atom rfl hx
   rw[q1] at hg';cases hg'
   simp at ev;subst ev
   rcases q3 with⟨_,_,h⟩|⟨bm,en,rfl,r2,r3,rfl,r5,r6,r7,r8⟩
   ·cases h
   ·obtain⟨e,s0,rfl,t2,t3,t4⟩:=r8 c rfl
    exact⟨_,by grind [Ty.off,run_entry_at], #[e.key,e.val],rfl,t3,t4,rfl⟩
  grind
 grind
def tk(G:bO)(d:Nat)(op:Op)(ev:Operand→AV)(hb:Nat→Option aN):Option fh:=
 match op with
 | .range t x=>w9 G d t (ev x)
 | .entry x=>(xa hb (ev x)).map .one
 |_=>none
theorem Fm{P:Program}{G:bO}(T:bD P G){gl:Ctx}{σ:St}{E:Env}{a:Act}{w:World}(h:bW gl σ E a w){o:Oper}{d:Nat}{ev:Operand→AV}{hb:Nat→Option aN}(hB:HB hb σ.hp){r:fh}
 (hev:∀x∈o.op.operands.toList,RV E w (ev x) (a.eval x)) (he:tk G d o.op ev hb=some r) (hfr:∀b∈r.fr,σ.fresh b):bS P gl σ E a w o r:=by
 unfold tk at he
 split at he
 ·rename_i t x hop
  obtain⟨v,w',E',h1,h2,h3,h4⟩:=A0 T (P:=P) h (hev x (by simp[hop,Op.operands])) he hfr
  exact⟨_,v,w',E',by simp[execOp,hop,h1],Or.inl rfl,h2,h3,h4⟩
 ·rename_i x hop
  obtain⟨u,hu,rfl⟩:=Option.map_eq_some_iff.1 he
  obtain⟨v,h1,h2⟩:=A1 (P:=P) h.hw hB (hev x (by simp[hop,Op.operands])) hu
  exact bS.same h (v:=v) (by simp[execOp,hop,h1]) h2
 grind
end Go.Ax
namespace Go.Ax
def xb(G:bO)(hb:Nat→Option aN)(s d:TypeId)(x:AV):Option fh:=
 match G.at s,x with
 |
  some ts,.own b=>match ts.ty,hb b with
  | .slice 1 (.int .u8),some (.row _ 1 (.int .u8) xs)=>if Nat.beq s d then some ⟨.val (.slice 1 (.int .u8)) xs,[(b,none)],[],[vc (0<xs.length)]⟩ else none
  |_,_=>none
 |_,_=>none
theorem bW.gone{gl:Ctx}{σ:St}{E:Env}{a:Act}{w w':World}(h:bW gl σ E a w){b:Nat}{k:aN}(hbk:σ.hp[b]? =some (some k)){g:Nat}(hg:E.g b=some g)(hos:w'.os=w.os)(hta:Tp gl.md w w')(hou:w'.output=w.output)(hsz:w'.heap.size=w.heap.size)
 (hold:∀i,i≠g→w'.heap[i]? =w.heap[i]?):
 bW gl {σ with hp:=σ.hp.set b none} {E with S:=fun i=>E.S i∨i=g} a w'∧Ext gl.md (Own σ.hp E) E w (Own (σ.hp.set b none) {E with S:=fun i=>E.S i∨i=g}) {E with S:=fun i=>E.S i∨i=g} w':=by
 have hng:∀i,E.S i→i≠g:=fun i hi e=>h.hw.jF b k i hbk (by grind) hi
 have kp:bJ E w {E with S:=fun i=>E.S i∨i=g} w':=⟨fun i hi=>hold i (hng i hi),fun b hb=>Or.inl hb⟩
 have get:∀(c:Nat)(k':aN),(σ.hp.set b none)[c]? =some (some k')→c≠b∧σ.hp[c]? =some (some k'):=by
  grind
 have ne:∀(c:Nat)(k':aN)(g':Nat),(σ.hp.set b none)[c]? =some (some k')→E.has c g'→g'≠g:=by
  intro c k' g' hc hg' e
  obtain⟨h1,h2⟩:=get c k' hc
  subst e
  exact h1 (h.hw.dG c b k' k g' h2 hbk hg' (Or.inl hg))
 have hw:HW gl {E with S:=fun i=>E.S i∨i=g} w' (σ.hp.set b none):=by
  refine⟨fun c k' hc=>RB.mono kp (fun _ _=>⟨rfl,rfl,rfl⟩) (fun g' hg'=>hold g' (ne c k' g' hc hg')) (fun _ _ h=>h) (h.hw.cE c k' (get c k' hc).2),fun c c' k1 k2 g' h1 h2=>h.hw.dG c c' k1 k2 g' (get c k1 h1).2 (get c' k2 h2).2,?_,?_,h.hw.fI kp,fun c k' g' hc hg'=>by have:=h.hw.qE c k' g' (get c k' hc).2 hg';omega⟩
  ·rintro c k' g' hc hg' (hs|hs)
   ·exact h.hw.dh c k' g' (get c k' hc).2 hg' hs
   ·exact ne c k' g' hc hg' hs
  ·rintro g' (hs|hs)
   ·have:=h.hw.slt g' hs;omega
   ·have:=Own.below h.hw ⟨b,k,hbk,Or.inl hg⟩;omega
 refine⟨h.carry kp (fun _ _=>⟨rfl,rfl,rfl⟩) hw,hos,hta,hou,by omega,fun g' _ hn=>hold g' (fun e=>hn ⟨b,k,hbk,by rw[e];exact Or.inl hg⟩),fun g' hg'=>Or.inl hg',?_,?_,fun _ _=>⟨rfl,rfl,rfl⟩⟩
 ·rintro g' (hs|hs)
  ·grind
  ·subst hs;exact Or.inr (Or.inl ⟨b,k,hbk,Or.inl hg⟩)
 ·rintro g' ⟨c,k',hc,hg'⟩
  exact Or.inl ⟨c,k',(get c k' hc).2,hg'⟩
theorem A2{P:Program}{G:bO}(T:bD P G){gl:Ctx}{σ:St}{E:Env}{a:Act}{w:World}(h:bW gl σ E a w){hb:Nat→Option aN}(hB:HB hb σ.hp){s d:TypeId}{x:AV}{r:fh}{vx:Value}(hx:RV E w x vx)(he:xb G hb s d x=some r)(hvc:dB r.vc):
 ∃v w' E',(convert s d vx).run P w= .ok v w'∧bW gl {σ with hp:=aQ σ.hp r.hw} E' a w'∧RV E' w' r.v v∧Ext gl.md (Own σ.hp E) E w (Own (aQ σ.hp r.hw) E') E' w':=by
 unfold xb at he
 split at he
 ·rename_i ts b hs
  split at he
  ·rename_i e xs h1 hk
   split at he
   ·rename_i hsd
    cases he
    have hsd:=bR hsd
    subst hsd
    have hlen:0<List.length xs:=hvc.1
    have hbk:=hB b _ hk
    obtain⟨_,r1,r2,_,ad,cap,r3,r4,r5⟩:=h.hw.cE b _ hbk
    rcases r5 with⟨_,_,r5⟩|⟨g,c,q1,q2,q3,q4,q5,q6⟩
    ·grind
    subst q2
    have hvx:vx= .slice (some ⟨g,0,none⟩) (List.length xs) cap:=by
     have:=RV.atom rfl hx
     grind [RC]
    subst hvx
    obtain⟨te,ie,u1,u2,u3,u4,u5,_⟩:=T.cI hs h1
    have u6:=T.intOf u2 u3
    have hlt:g<w.heap.size:=Own.below h.hw ⟨b,_,hbk,Or.inl q1⟩
    have hsame:(w.freeze ⟨g,c.size,none⟩ 1).heap[g]? =some (.cells c e (c.size,c.size+1)):=by
     simp only[World.freeze,Nat.one_ne_zero,bY,Array.getElem?_modify,bH,q3]
     rfl
    have hold:∀i,i≠g→(w.freeze ⟨g,c.size,none⟩ 1).heap[i]? =w.heap[i]? :=by
     intro i hi
     simp only[World.freeze,Nat.one_ne_zero,bY,Array.getElem?_modify,aC (fun e=>hi (Eq.symm e))]
    have hsz:(w.freeze ⟨g,c.size,none⟩ 1).heap.size=w.heap.size:=by
     simp[World.freeze]
    obtain⟨g1,g2⟩:=h.gone hbk q1 (w':=w.freeze ⟨g,c.size,none⟩ 1) (by trivial) (Tp.r (by trivial) (by trivial)) (by trivial) hsz hold
    refine⟨.slice (some ⟨g,0,none⟩) (List.length xs) cap,w.freeze ⟨g,c.size,none⟩ 1,_,?_,g1,?_,g2⟩
    ·have hsh:w.shape? g=some (e,c.size):=by simp[World.shape?,q3]
     simp[convert,underlying,u1,u6,markStringish,hsh]
    ·have q7:c.size=cap:=by rw[q4];show cap*1=cap;omega
     refine RV.dK (Or.inr ⟨rfl,some ⟨g,0,none⟩,cap,rfl,q5,r1,r2,Or.inr ⟨g,0,c.toList.take (List.length xs*Ty.size (.int .u8)),rfl,Or.inr rfl,?_,aT.mono (fun _ _=>Rel.flat rfl) q6⟩⟩)
     intro j v hj
     rw[Addr.fW,dN]
     show World.cell? _ _=_
     unfold World.cell?
     grind
   grind
  grind
 grind
end Go.Ax
namespace Go.Ax
def xc(G:bO)(t:TypeId)(x:AV)(i:Nat):Option AV:=
 match G.at t with
 |
  some td=>match td.ty.sub [.cw i],x.get [.cw i] with
  |some _,some u=>if x.plain&&x.cp td.ty then some u else none
  |_,_=>none
 |none=>none
theorem A3{P:Program}{G:bO}(T:bD P G){E:Env}{w:World}{t:TypeId}{x u:AV}{i:Nat}{vx:Value}(hx:RV E w x vx)(h:xc G t x i=some u):
 ∃v,(Instr.field t vx i).run P w= .ok v w∧RV E w u v:=by
 unfold xc at h
 split at h
 ·rename_i td ht
  split at h
  ·rename_i s u' hs hg
   split at h
   ·rename_i hc
    cases h
    simp only[aV] at hc
    obtain⟨fs,f,tf,h1,h2,h3,h4,h5,h6,hval⟩:=T.struct ht hs
    have acO:td.ty.isAgg=true:=by
     cases hty:td.ty with
     |pair a b=>rfl
     |arr n a=>rfl
     |_=>rw[hty] at hs;trivial
    rcases RV.je hc.1 hx with⟨_,cs,rfl,hrc⟩|⟨ha,_⟩
    ·obtain⟨s',e1,e2,e3,e4⟩:=AV.eV hrc hc.2 hval hg
     rw[hs] at e1;cases e1
     rw[←h5] at e3 e4
     have hl:=RC.len e4
     by_cases ha:s.isAgg=true
     ·refine⟨.agg (cs.extract f.offset (f.offset+s.size)),?_,RV.dK (Or.inl ⟨by rw[AV.ia e2];exact ha,_,rfl,?_⟩)⟩
      ·simp[Instr.field,underlying,h1,h2,asAgg,part,T.isAgg h3,T.size h3,h4,ha]
      simp_all
     ·have ha':s.isAgg=false:=by grind
      have hs1:s.size=1:=by cases hh:s<;>rw[hh] at ha'<;>simp[Ty.isAgg] at ha'<;>rfl
      rw[hs1] at e3 e4
      have hlt:f.offset<cs.size:=by
       grind
      have e5:(cs.toList.drop f.offset).take 1= [cs[f.offset]]:=by
       grind [jj]
      rw[e5] at e4
      refine⟨cs[f.offset],?_,RV.dK (Or.inr ⟨by rw[AV.ia e2];exact ha',e4⟩)⟩
      simp[Instr.field,underlying,h1,h2,asAgg,part,T.isAgg h3,h4,ha',hlt]
    grind [AV.ia]
   grind
  grind
 grind
end Go.Ax
namespace Go.Ax
def A4(P:Program)(G:bO)(hb:Nat→Option aN)(t:TypeId)(x k:AV):Option fh:=
 match ld G t,x with
 |
  some (ke,_,kt,vt),.mp b=>match hb b with
  |some (.fP k0 u es e2 kx v pr)=>if h:Ty.same k0 kt=true∧Ty.same u vt=true then(match k.bK kt with
   |some k'=>if k.plain&&v.plain&& !v.isAgg&&v.cp u&&u.Is then some ⟨.gk (.cons v (.cons (.eJ b) .nil)),[(b,some (.fP k0 u (nj k0 u kx es pr) e2 kx v true))],[],[vc (iL P G 40 ke kt=true),vc (aY kt k' (Ty.aB h.1▸kx:kt.den)=true),vc (es.length+1≤aE)]⟩ else none
   |none=>none) else none
  |_=>none
 |_,_=>none
theorem xd{P:Program}{w:World}{t ke ve:TypeId}{vk:Value}{g clock:Nat}{en:Array MapEntry}(hu:P.underlying t=some (.map ke ve))(ac2:w.heap[g]? =some (.map en clock))(q3:(Instr.checkKey false 10000 ke vk).run P w= .ok () w):
 (∀z,(zeroValue ve).run P w= .ok z w→(Instr.findKey ke vk en.toList).run P w= .ok none w→(Instr.mapEntry t (.map (some g)) vk).run P w= .ok (.tuple #[z,goInt clock]) (w.putObj g (.map (en.push {key:=vk,val:=z,born:=clock}) (clock+1))))∧
 ∀i m,en[i]? =some m→(Instr.findKey ke vk en.toList).run P w= .ok (some (i,m.val)) w→(Instr.keyThatStays m.key vk).run P w= .ok vk w→(Instr.mapEntry t (.map (some g)) vk).run P w= .ok (.tuple #[m.val,goInt m.born]) (w.putObj g (.map (en.modify i fun e=>{e with key:=vk}) clock)):=by
 simp_all[getObj,Sem.run,setObj,World.putObj,Instr.mapEntry,run_underlying]
theorem D5{P:Program}{G:bO}(T:bD P G){gl:Ctx}{σ:St}{E:Env}{a:Act}{w:World}(h:bW gl σ E a w){hb:Nat→Option aN}(hB:HB hb σ.hp){t:TypeId}{x k:AV}{vx vk:Value}(hx:RV E w x vx)(hk:RV E w k vk){r:fh}(he:A4 P G hb t x k=some r)(hvc:dB r.vc):
 ∃v w',(Instr.mapEntry t vx vk).run P w= .ok v w'∧bW gl {σ with hp:=aQ σ.hp r.hw} E a w'∧RV E w' r.v v∧Ext gl.md (Own σ.hp E) E w (Own (aQ σ.hp r.hw) E) E w':=by
 unfold A4 at he
 split at he
 case h_2=>cases he
 rename_i ke ve kt vt b hm
 obtain⟨hu,hke,_,⟨kd,h4,h5⟩,⟨vd,h6,h7⟩⟩:=iv T hm
 subst h5;subst h7
 split at he
 case h_2=>cases he
 rename_i k0 u es e2 kx v pr hbk0
 split at he
 case isFalse=>cases he
 rename_i hc
 obtain⟨c1,c2⟩:=hc
 have e1:=Ty.aB c1;subst e1
 have e2':=Ty.aB c2;subst e2'
 split at he
 case h_2=>cases he
 rename_i k' hk'
 split at he
 case isFalse=>cases he
 rename_i hpl
 cases he
 simp only[aV,iC] at hpl
 obtain⟨⟨⟨⟨p1,p2⟩,p3⟩,p4⟩,p5⟩:=hpl
 obtain⟨he,hkx,hlen,_⟩:=hvc
 have hkx:k'=kx:=(cm hke _ _).1 hkx
 subst hkx
 have hkv:cC E w (.val kd.ty k') vk:=cC.bK hk' (RV.je p1 hk)
 have hbk:=hB b _ hbk0
 obtain⟨hrb,n,g9,en9,clock9,n1,n2,n3,n4,n5⟩:=h.hw.cE b _ hbk
 obtain⟨g0,hg0,ex⟩:=RV.atom rfl hx
 simp at ex;subst ex
 obtain⟨g,en,clock,r,q1,q2,q3,q4,q5⟩:=mr T hke h4 he hrb hkv
 rw[q1] at hg0;have hg0:=kf hg0;subst hg0
 rw[q1] at n2;have n2:=kf n2;subst n2
 rw[q2] at n3;cases n3
 have kpo:∀o,bJ E w E (w.putObj g o):=fun o=>⟨fun i hi=>World.putObj_heap_other (fun e=>h.hw.jF b _ g hbk q1 (e▸hi)),fun _ h=>h⟩
 have hlt:g<w.heap.size:=(Array.getElem?_eq_some_iff.1 q2).1
 obtain⟨R1,R2⟩:=xd hu q2 (q3 false)
 have tupOK:∀(w':World)(vv:Value),RC E w' v [vv]→RV E w' (.gk (.cons v (.cons (.eJ b) .nil))) (.tuple #[vv,goInt n]):=by
  intro w' vv hv
  exact⟨#[vv,goInt n],rfl,Or.inr ⟨p3,hv⟩,Or.inr ⟨rfl,by rw[n1];rfl,n,n1⟩,rfl⟩
 have fin:∀(vv:Value)(en':Array MapEntry)(acZ:Nat),RC E w v [vv]→(Instr.mapEntry t (.map (some g)) vk).run P w= .ok (.tuple #[vv,goInt n]) (w.putObj g (.map en' acZ))→RB E (w.putObj g (.map en' acZ)) b (.fP kd.ty vd.ty (nj kd.ty vd.ty k' es pr) e2 k' v true)→
  ∃v' w',(Instr.mapEntry t (.map (some g)) vk).run P w= .ok v' w'∧bW gl {σ with hp:=aQ σ.hp [(b,some (.fP kd.ty vd.ty (nj kd.ty vd.ty k' es pr) e2 k' v true))]} E a w'∧RV E w' (.gk (.cons v (.cons (.eJ b) .nil))) v'∧Ext gl.md (Own σ.hp E) E w (Own (aQ σ.hp [(b,some (.fP kd.ty vd.ty (nj kd.ty vd.ty k' es pr) e2 k' v true))]) E) E w':=by
  intro vv en' acZ hv acV hrb2
  have hw2:=h.hw.write hbk (by simp) (fun i hi=>World.putObj_heap_other (fun e=>hi (by grind))) hrb2
  refine⟨_,_,acV,h.carry (kpo _) (fun _ _=>⟨rfl,rfl,rfl⟩) hw2,tupOK _ _ (RC.mono (kpo _) (fun _ _=>⟨rfl,rfl,rfl⟩) hv),⟨rfl,Tp.r rfl rfl,rfl,by simp,?_,fun _ h=>h,fun _ h=>Or.inl h,fun i hi=>Or.inl (Own.lU hbk hi),fun _ _=>⟨rfl,rfl,rfl⟩⟩⟩
  intro i hi ho
  exact World.putObj_heap_other (fun e=>ho ⟨b,_,hbk,by rw[e];exact Or.inl q1⟩)
 have hpm:=hrb
 obtain⟨z1,z2,z3,g',en',acZ,og,y1,y2,y3,y4,y5,y6,y7,y8⟩:=hpm
 rw[q1] at y1;cases y1
 rw[q2] at y2;cases y2
 rcases q5 with⟨e,hn⟩|⟨i,y,m,e,s1,s2⟩
 ·subst e
  have hpr:pr=false:=by
   grind
  subst hpr
  have hvv:RC E w v [zeroV vd.ty]:=(y8 _ v).1 rfl hn
  obtain⟨_,hsz,hpm⟩:=C1 hke hrb q1 q2 hn hkv hvv p4 hlen kpo
  have hnc:=n4 hn
  refine fin (zeroV vd.ty) _ _ hvv (by grind [w8]) ⟨hpm,n,g,_,_,n1,q1,World.putObj_heap_same hlt,?_,?_⟩
  ·intro hh;exact absurd (by show k'∈(bB kd.ty k' vd.ty.aD es).map (·.1);rw[lY hke hn];simp) hh
  ·intro j m' y' hj hm'
   have hj:(bB kd.ty k' vd.ty.aD es)[j]? =some (k',y'):=hj
   grind [lY]
 ·subst e
  obtain⟨m',t1,t2,t3,t4⟩:=y7 i _ s1
  rw[s2] at t1;cases t1
  have hvv:=(t3 v pr rfl).2
  obtain⟨f1,f2⟩:=cC.fn hke t2 hkv
  have hstay:(Instr.keyThatStays m.key vk).run P w= .ok vk w:=by
   rw[Instr.keyThatStays,←f1,aA f2];simp
  have hb:=n5 i m y s1 s2
  obtain⟨⟨y',hes⟩,_,_,hpm⟩:=AZ hke hrb q1 q2 s1 s2 (fun e=>{e with key:=vk}) (fun _=>rfl) hkv hvv p4 kpo
  have hi:i<es.length:=(List.getElem?_eq_some_iff.1 s1).1
  refine fin m.val _ _ hvv (by grind) ⟨hpm,n,g,_,_,n1,q1,World.putObj_heap_same hlt,?_,?_⟩
  ·intro hh
   refine absurd ?_ hh
   rw[hes]
   exact List.mem_map.2 ⟨(k',y'),lP (i:=i) (by grind),rfl⟩
  grind
def A5(hb:Nat→Option aN)(x s y:AV):Option fh:=
 match x,s with
 |
  .mp b,.eJ c=>match hb b with
  |some (.fP k0 u es e2 kx _ true)=>if Nat.beq b c&&k0.keyed&&y.plain&& !y.isAgg&&y.cp u then some ⟨.bot,[(b,some (.fP k0 u es e2 kx y true))],[],[]⟩ else none
  |_=>none
 |_,_=>none
theorem A6{en:Array MapEntry}(h:(en.toList.map (·.born)).Nodup){i j:Nat}{m m':MapEntry}(h1:en[i]? =some m)(h2:en[j]? =some m')(hb:m.born=m'.born):i=j:=by
 grind [List.pairwise_iff_getElem]
theorem D6{P:Program}{gl:Ctx}{σ:St}{E:Env}{a:Act}{w:World}(h:bW gl σ E a w){hb:Nat→Option aN}(hB:HB hb σ.hp){t:TypeId}{x s y:AV}{vx vs vy:Value}(hx:RV E w x vx)(hs:RV E w s vs)(hy:RV E w y vy){r:fh}(he:A5 hb x s y=some r):
 ∃w',(Instr.entryStore t vx vs vy).run P w= .ok () w'∧bW gl {σ with hp:=aQ σ.hp r.hw} E a w'∧RV E w' r.v undef∧Ext gl.md (Own σ.hp E) E w (Own (aQ σ.hp r.hw) E) E w':=by
 unfold A5 at he
 split at he
 case h_2=>cases he
 rename_i b c
 split at he
 case h_2=>cases he
 rename_i k0 u es e2 kx v0 hbk0
 split at he
 case isFalse=>cases he
 rename_i hpl
 cases he
 simp only[aV,iC] at hpl
 obtain⟨⟨⟨⟨p0,hke⟩,p2⟩,p3⟩,p4⟩:=hpl
 have p0:=bR p0;subst p0
 have hyv:RC E w y [vy]:=by
  rcases RV.je p2 hy with⟨hh,_⟩|⟨_,hh⟩<;>grind
 have hbk:=hB b _ hbk0
 obtain⟨hrb,n,g,en,clock,n1,q1,q2,n4,n5⟩:=h.hw.cE b _ hbk
 obtain⟨g0,hg0,ex⟩:=RV.atom rfl hx
 simp at ex;subst ex
 rw[q1] at hg0;have hg0:=kf hg0;subst hg0
 obtain⟨es1,_⟩:=RV.atom rfl hs
 simp at es1;subst es1
 have kpo:∀o,bJ E w E (w.putObj g o):=fun o=>⟨fun i hi=>World.putObj_heap_other (fun e=>h.hw.jF b _ g hbk q1 (e▸hi)),fun _ h=>h⟩
 have hlt:g<w.heap.size:=(Array.getElem?_eq_some_iff.1 q2).1
 have hpm:=hrb
 obtain⟨z1,z2,z3,g',en',acZ,og,y1,y2,y3,y4,y5,y6,y7,y8⟩:=hpm
 rw[q1] at y1;cases y1
 rw[q2] at y2;cases y2
 have hin:=(y8 kx v0).2 rfl
 obtain⟨z,hz,ez⟩:=List.mem_map.1 hin
 obtain⟨zk,zy⟩:=z
 simp only at ez;subst ez
 obtain⟨i,s1⟩:=List.getElem?_of_mem hz
 obtain⟨m,s2,t2,t3,t4⟩:=y7 i _ s1
 have hb:=n5 i m zy s1 s2
 obtain⟨⟨y',hes⟩,_,_,hpm⟩:=AZ hke hrb q1 q2 s1 s2 (fun e=>{e with val:=vy}) (fun _=>rfl) t2 hyv p4 kpo
 have hfind:en.findIdx? (fun e=>(e.born:Int)==(n:Int))=some i:=by
  rw[Array.findIdx?_eq_some_iff_getElem]
  obtain⟨hi,hm⟩:=Array.getElem?_eq_some_iff.1 s2
  refine⟨hi,by grind,fun j hj=>?_⟩
  intro hbj
  have hj2:en[j]? =some en[j]:=by simp
  grind [A6]
 have h1:(getObj g).run P w= .ok (.map en clock) w:=by simp[getObj,Sem.run,q2]
 have aQ:∀o,(setObj g o).run P w= .ok () (w.putObj g o):=fun o=>by simp[setObj,Sem.run,q2,World.putObj]
 have acV:(Instr.entryStore t (.map (some g)) (E.sv b) vy).run P w= .ok () (w.putObj g (.map (en.modify i fun e=>{e with val:=vy}) clock)):=by
  grind [Instr.entryStore,Sem.run_bind,Result.andThen_ok,asInt,asIntOf]
 have hw2:=h.hw.write (k':=.fP k0 u es e2 zk y true) hbk (by simp) (fun i hi=>World.putObj_heap_other (fun e=>hi (by grind))) (w':=w.putObj g (.map (en.modify i fun e=>{e with val:=vy}) clock)) ⟨hpm,n,g,_,_,n1,q1,World.putObj_heap_same hlt,fun hh=>absurd hin hh,by
  grind⟩
 refine⟨_,acV,h.carry (kpo _) (fun _ _=>⟨rfl,rfl,rfl⟩) hw2,trivial,⟨rfl,Tp.r rfl rfl,rfl,by simp,?_,fun _ h=>h,fun _ h=>Or.inl h,fun i hi=>Or.inl (Own.lU hbk hi),fun _ _=>⟨rfl,rfl,rfl⟩⟩⟩
 intro i hi ho
 exact World.putObj_heap_other (fun e=>ho ⟨b,_,hbk,by rw[e];exact Or.inl q1⟩)
end Go.Ax
namespace Go.Ax
def C3:Ty→Bool
 | .aR .func=>true
 |_=>false
theorem Fo{t:Ty}(h:C3 t=true):t= .aR .func:=by
 grind [C3]
def LF(k0:Ty)(k:k0.den):List (k0.den×AV)→List VC
 |[]=>[]
 |x::l=>vc (aY k0 k x.1=false)::LF k0 k l
def It(P:Program)(G:bO)(td:TD)(b:Nat)(k0:Ty)(l:List (k0.den×AV))(k v:AV):Option fh:=
 match G.at td.e,k.bK k0 with
 |some kd,some k'=>if td.ty.isMap&&k0.keyed&&Ty.same k0 kd.ty&&k.plain&&v.plain&& !v.isAgg then some ⟨.bot,[(b,some (.gW k0 (l++[(k',v)])))],[],vc (iL P G 40 td.e k0=true)::vc (l.length+1≤aE)::LF k0 k' l⟩ else none
 |_,_=>none
def A7(P:Program)(G:bO)(hb:Nat→Option aN)(t:TypeId)(x k v:AV):Option fh:=
 match G.at t,x with
 |
  some td,.mp b=>match hb b with
  |some (.map k0 u [])=>if C3 u then It P G td b k0 [] k v else none
  |some (.gW k0 l)=>It P G td b k0 l k v
  |_=>none
 |_,_=>none
def okF(ok:Bool)(x:AV)(b:Bool):AV:=match ok with
 |true=>.gk (.cons x (.cons (.val .bool b) .nil))
 |false=>x
def lr(ok:Bool)(k0:Ty)(k:k0.den):List (k0.den×AV)→AV
 |[]=>okF ok .fq false
 |x::l=>if aY k0 k x.1=true then okF ok x.2 true else lr ok k0 k l
def rX(P:Program)(G:bO)(hb:Nat→Option aN)(ok:Bool)(t:TypeId)(x k:AV):Option (AV×List VC):=
 match G.at t,x with
 |
  some td,.mp b=>match hb b with
  |
   some (.gW k0 l)=>match G.at td.e,G.at td.e2,k.bK k0 with
   |some kd,some vd,some k'=>if td.ty.isMap&&k0.keyed&&Ty.same k0 kd.ty&&k.plain&&C3 vd.ty then some (lr ok k0 k' l,[vc (iL P G 40 td.e k0=true)]) else none
   |_,_,_=>none
  |_=>none
 |_,_=>none
theorem RF.rk{E:Env}{w:World}{k:Ty}:∀{en:List MapEntry}{l:List (k.den×AV)},RF E w k en l→RK E w k en l
 |[],[],_=>trivial
 |[],_::_,h=>h.elim
 |_::_,[],h=>h.elim
 |_::_,_::_,h=>⟨h.1,RF.rk h.2.2.2⟩
theorem RF.get{E:Env}{w:World}{k:Ty}:∀{en:List MapEntry}{l:List (k.den×AV)}{i:Nat}{x:k.den×AV},RF E w k en l→l[i]? =some x→∃m,en[i]? =some m∧RC E w x.2 [m.val]∧x.2.isAgg=false
 |[],[],i,x,_,hx=>by grind
 |[],_::_,_,_,h,_=>h.elim
 |_::_,[],_,_,h,_=>h.elim
 |m::_,_::_,0,x,h,hx=>by simp at hx;subst hx;exact⟨m,rfl,h.2.1,h.2.2.1⟩
 |_::_,_::_,i+1,x,h,hx=>by simpa using RF.get h.2.2.2 (by simpa using hx)
theorem RF.snoc{E:Env}{w:World}{k:Ty}{m:MapEntry}{x:k.den×AV}(h1:cC E w (.val k x.1) m.key)(h2:RC E w x.2 [m.val])(h3:x.2.isAgg=false):∀{en:List MapEntry}{l:List (k.den×AV)},RF E w k en l→RF E w k (en++[m]) (l++[x])
 |[],[],_=>⟨h1,h2,h3,trivial⟩
 |[],_::_,h=>h.elim
 |_::_,[],h=>h.elim
 |_::_,_::_,h=>⟨h.1,h.2.1,h.2.2.1,RF.snoc h1 h2 h3 h.2.2.2⟩
theorem C4{k0:Ty}(hk:k0.keyed=true){k:k0.den}:∀{l:List (k0.den×AV)},dB (LF k0 k l)→k∉l.map (·.1)
 |[],_=>by simp
 |
  x::l,⟨h1,h2⟩=>by
  have h1:aY k0 k x.1=false:=h1
  simp only[dC,fe,not_or]
  refine⟨fun e=>?_,C4 hk h2⟩
  rw[(cm hk _ _).2 e] at h1;cases h1
theorem yZ{ok:Bool}{k0:Ty}(hk:k0.keyed=true){k:k0.den}:∀{l:List (k0.den×AV)}{i:Nat}{v:AV},(l.map (·.1)).Nodup→l[i]? =some (k,v)→lr ok k0 k l=okF ok v true
 |[],i,v,_,h=>by simp at h
 |x::l,0,v,_,h=>by simp_all[lr,cm]
 |
  x::l,i+1,v,hn,h=>by
  simp only[dC,mX] at hn
  have hm:l[i]? =some (k,v):=by grind
  have hne:¬aY k0 k x.1=true:=fun e=>hn.1 (by rw[←(cm hk _ _).1 e];grind)
  simp only[lr];rw[aC hne];exact yZ hk hn.2 hm
theorem zb{ok:Bool}{k0:Ty}(hk:k0.keyed=true){k:k0.den}:∀{l:List (k0.den×AV)},k∉l.map (·.1)→lr ok k0 k l=okF ok .fq false
 |[],_=>rfl
 |
  x::l,h=>by
  simp only[dC,fe,not_or] at h
  simp only[lr];rw[aC (fun e=>h.1 ((cm hk _ _).1 e))];exact zb hk h.2
theorem C5{P:Program}{G:bO}(T:bD P G){E:Env}{w:World}{td kd:TD}{k0:Ty}{l:List (k0.den×AV)}{en:List MapEntry}(hk:k0.keyed=true)(h4:G.at td.e=some kd)(hs:Ty.same k0 kd.ty=true)(he:iL P G 40 td.e k0=true)(hr:RF E w k0 en l){k':k0.den}{vk:Value}(hkv:cC E w (.val k0 k') vk):
 (∀em,(Instr.checkKey em 10000 td.e vk).run P w= .ok () w)∧∃r,(Instr.findKey td.e vk en).run P w= .ok r w∧((r=none∧k'∉l.map (·.1))∨∃i v m,r=some (i,m.val)∧l[i]? =some (k',v)∧en[i]? =some m):=by
 have e:=Ty.aB hs
 subst e
 refine⟨fun em=>iG T (E:=E) (w:=w) em 9960 40 _ kd h4 he k' vk hkv,?_⟩
 obtain⟨r,r1,r2⟩:=yY T h4 he hkv hr.rk
 refine⟨r,r1,?_⟩
 cases hf:dF kd.ty k' l 0 with
 |
  none=>
  rw[hf] at r2
  cases r with
  |none=>exact Or.inl ⟨rfl,nD hk hf⟩
  |some _=>trivial
 |
  some p=>
  obtain⟨i,y⟩:=p
  rw[hf] at r2
  cases r with
  |none=>trivial
  |
   some q=>
   obtain⟨i',u⟩:=q
   obtain⟨e1,_,m,e2,e3⟩:=r2
   simp only[Nat.sub_zero] at e1 e2 e3
   subst e1;subst e3
   have:=(nC hk hf).2
   grind
theorem C6{P:Program}{G:bO}(T:bD P G){gl:Ctx}{σ:St}{E:Env}{a:Act}{w:World}(h:bW gl σ E a w){t:TypeId}{td:TD}(ht:G.at t=some td){b:Nat}{k0:Ty}{l:List (k0.den×AV)}{k v:AV}{vk vv:Value}(hk:RV E w k vk)(hv:RV E w v vv){r:fh}(he:It P G td b k0 l k v=some r)(hvc:dB r.vc)
 {kb:aN} (hbk:σ.hp[b]? =some (some kb)) (hrb:RB E w b (.gW k0 l)) {g:Nat} (hg:E.g b=some g):
 ∃w',(Instr.mapUpdate t (.map (some g)) vk vv).run P w= .ok () w'∧bW gl {σ with hp:=aQ σ.hp r.hw} E a w'∧RV E w' r.v undef∧Ext gl.md (Own σ.hp E) E w (Own (aQ σ.hp r.hw) E) E w':=by
 unfold It at he
 split at he
 case h_2=>cases he
 rename_i kd k' h4 hk'
 split at he
 case isFalse=>cases he
 rename_i hc
 cases he
 simp only[aV,iC] at hc
 obtain⟨⟨⟨⟨⟨c1,c2⟩,c3⟩,c4⟩,c5⟩,c6⟩:=hc
 obtain⟨he,hlen,hdif⟩:=hvc
 have hn:=C4 c2 hdif
 have hu:=T.mapOf ht c1
 have hkv:cC E w (.val k0 k') vk:=cC.bK hk' (RV.je c4 hk)
 have hvv:RC E w v [vv]:=by
  rcases RV.je c5 hv with⟨hh,_⟩|⟨_,hh⟩<;>grind
 obtain⟨z1,z2,g',en,clock,q1,q2,q3⟩:=hrb
 rw[hg] at q1;cases q1
 obtain⟨k1,r,k2,k3⟩:=C5 T c2 h4 c3 he q3 hkv
 rcases k3 with⟨e,_⟩|⟨i,y,m,_,s1,_⟩
 case inr=>grind
 subst e
 have h1:(getObj g).run P w= .ok (.map en clock) w:=by simp[getObj,Sem.run,q2]
 have aQ:∀o,(setObj g o).run P w= .ok () (w.putObj g o):=fun o=>by simp[setObj,Sem.run,q2,World.putObj]
 have hlt:g<w.heap.size:=(Array.getElem?_eq_some_iff.1 q2).1
 have kpo:∀o,bJ E w E (w.putObj g o):=fun o=>⟨fun i hi=>World.putObj_heap_other (fun e=>h.hw.jF b _ g hbk hg (e▸hi)),fun _ h=>h⟩
 have acV:(Instr.mapUpdate t (.map (some g)) vk vv).run P w= .ok () (w.putObj g (.map (en.push {key:=vk,val:=vv,born:=clock}) (clock+1))):=by
  simp_all[Instr.mapUpdate,run_underlying]
 have hw2:=h.hw.write (k':=.gW k0 (l++[(k',v)])) hbk (by simp) (fun i hi=>World.putObj_heap_other (fun e=>hi (by grind))) (w':=w.putObj g (.map (en.push {key:=vk,val:=vv,born:=clock}) (clock+1))) ⟨by
  grind,by grind,g,_,_,hg,World.putObj_heap_same hlt,by
  rw[Array.toList_push]
  exact RF.snoc (cC.mono (kpo _) (fun _ hb=>by cases hb) hkv) (RC.mono (kpo _) (fun _ _=>⟨rfl,rfl,rfl⟩) hvv) c6 (RF.mono (kpo _) (fun _ _=>⟨rfl,rfl,rfl⟩) q3)⟩
 refine⟨_,acV,h.carry (kpo _) (fun _ _=>⟨rfl,rfl,rfl⟩) hw2,trivial,⟨rfl,Tp.r rfl rfl,rfl,by simp,?_,fun _ h=>h,fun _ h=>Or.inl h,fun i hi=>Or.inl (Own.lU hbk hi),fun _ _=>⟨rfl,rfl,rfl⟩⟩⟩
 intro i hi ho
 exact World.putObj_heap_other (fun e=>ho ⟨b,_,hbk,by rw[e];exact Or.inl hg⟩)
theorem D7{P:Program}{G:bO}(T:bD P G){gl:Ctx}{σ:St}{E:Env}{a:Act}{w:World}(h:bW gl σ E a w){hb:Nat→Option aN}(hB:HB hb σ.hp){t:TypeId}{x k v:AV}{vx vk vv:Value}(hx:RV E w x vx)(hk:RV E w k vk)(hv:RV E w v vv){r:fh}(he:A7 P G hb t x k v=some r)(hvc:dB r.vc):
 ∃w',(Instr.mapUpdate t vx vk vv).run P w= .ok () w'∧bW gl {σ with hp:=aQ σ.hp r.hw} E a w'∧RV E w' r.v undef∧Ext gl.md (Own σ.hp E) E w (Own (aQ σ.hp r.hw) E) E w':=by
 unfold A7 at he
 split at he
 case h_2=>cases he
 rename_i td b ht
 obtain⟨g0,hg0,ex⟩:=RV.atom rfl hx
 simp at ex;subst ex
 split at he
 ·rename_i k0 u hbk0
  split at he
  case isFalse=>cases he
  have hbk:=hB b _ hbk0
  obtain⟨z1,z2,g,en,clock,q1,q2,q3,_⟩:=h.hw.cE b _ hbk
  refine C6 T h ht hk hv he hvc hbk ⟨by simp,by simp,g,en,clock,q1,q2,?_⟩ hg0
  cases hen:en.toList with
  |nil=>trivial
  |cons m l=>rw[hen] at q3;exact q3.elim
 ·rename_i k0 l hbk0
  have hbk:=hB b _ hbk0
  exact C6 T h ht hk hv he hvc hbk (h.hw.cE b _ hbk) hg0
 ·cases he
theorem A8{P:Program}{G:bO}(T:bD P G){gl:Ctx}{E:Env}{w:World}{hp:List (Option aN)}(hw:HW gl E w hp){hb:Nat→Option aN}(hB:HB hb hp){ok:Bool}{t:TypeId}{x k:AV}{vx vk:Value}(hx:RV E w x vx)(hk:RV E w k vk){r:AV}{vcs:List VC}(h:rX P G hb ok t x k=some (r,vcs))(hvc:dB vcs):
 ∃v,(Instr.lookup t vx vk ok).run P w= .ok v w∧RV E w r v:=by
 unfold rX at h
 split at h
 case h_2=>cases h
 rename_i td b ht
 split at h
 case h_2=>cases h
 rename_i k0 l hbk0
 split at h
 case h_2=>cases h
 rename_i kd vd k' h4 h6 hk'
 split at h
 case isFalse=>cases h
 rename_i hc
 cases h
 simp only[aV] at hc
 obtain⟨⟨⟨⟨c1,c2⟩,c3⟩,c4⟩,c5⟩:=hc
 obtain⟨he,_⟩:=hvc
 have hu:=T.mapOf ht c1
 have hkv:cC E w (.val k0 k') vk:=cC.bK hk' (RV.je c4 hk)
 obtain⟨g0,hg0,ex⟩:=RV.atom rfl hx
 simp at ex;subst ex
 obtain⟨z1,z2,g,en,clock,q1,q2,q3⟩:=hw.cE b _ (hB b _ hbk0)
 rw[q1] at hg0;cases hg0
 obtain⟨k1,rr,k2,k3⟩:=C5 T c2 h4 c3 he q3 hkv
 have h1:(getObj g0).run P w= .ok (.map en clock) w:=by simp[getObj,Sem.run,q2]
 rcases k3 with⟨e,hn⟩|⟨i,y,m,e,s1,s2⟩
 ·subst e
  obtain⟨z,y1,y2,y3⟩:=T.zero h6 w
  have hz:=Fo c5
  rw[hz] at y2 y3
  have hzz:RC E w .fq [z]:=by
   have:=(fv (E:=E) (w:=w) y2).1
   cases z with
   |agg cs=>trivial
   |_=>trivial
  rw[zb c2 hn]
  cases ok with
  |
   true=>
   refine⟨.tuple #[z,.bool false],by simp only[Instr.lookup,Sem.run_bind,run_underlying hu,Result.andThen_ok,Sem.run_pure,h1,k1,k2,y1];rfl,?_⟩
   exact⟨#[z,.bool false],rfl,Or.inr ⟨rfl,hzz⟩,RV.bool,rfl⟩
  |
   false=>
   refine⟨z,by simp only[Instr.lookup,Sem.run_bind,run_underlying hu,Result.andThen_ok,Sem.run_pure,h1,k1,k2,y1];rfl,?_⟩
   exact RV.dK (Or.inr ⟨rfl,hzz⟩)
 ·subst e
  obtain⟨m',r1,r2,r3⟩:=RF.get q3 s1
  rw[s2] at r1;cases r1
  rw[yZ c2 z1 s1]
  cases ok with
  |
   true=>
   refine⟨.tuple #[m.val,.bool true],by simp only[Instr.lookup,Sem.run_bind,run_underlying hu,Result.andThen_ok,Sem.run_pure,h1,k1,k2];rfl,?_⟩
   exact⟨#[m.val,.bool true],rfl,Or.inr ⟨r3,r2⟩,RV.bool,rfl⟩
  |
   false=>
   refine⟨m.val,by simp only[Instr.lookup,Sem.run_bind,run_underlying hu,Result.andThen_ok,Sem.run_pure,h1,k1,k2];rfl,?_⟩
   exact RV.dK (Or.inr ⟨r3,r2⟩)
def tn(P:Program)(G:bO)(op:Op)(ev:Operand→AV)(hb:Nat→Option aN):Option fh:=
 match op with
 | .mapEntry t x k=>A4 P G hb t (ev x) (ev k)
 | .entryStore _ x s y=>A5 hb (ev x) (ev s) (ev y)
 | .insert t x k v=>A7 P G hb t (ev x) (ev k) (ev v)
 | .lookup t x k ok=>(rX P G hb ok t (ev x) (ev k)).map .He
 | .convert s d x=>xb G hb s d (ev x)
 | .field t x i=>(xc G t (ev x) i).map .one
 |_=>none
theorem Fp{P:Program}{G:bO}(T:bD P G){gl:Ctx}{σ:St}{E:Env}{a:Act}{w:World}(h:bW gl σ E a w){o:Oper}{ev:Operand→AV}{hb:Nat→Option aN}(hB:HB hb σ.hp){r:fh}
 (hev:∀x∈o.op.operands.toList,RV E w (ev x) (a.eval x)) (he:tn P G o.op ev hb=some r) (hvc:dB r.vc):bS P gl σ E a w o r:=by
 unfold tn at he
 split at he
 ·rename_i t x k hop
  obtain⟨v,w',h1,h2,h3,h4⟩:=D5 T h hB (hev x (by simp[hop,Op.operands])) (hev k (by simp[hop,Op.operands])) he hvc
  exact⟨_,v,w',E,by simp[execOp,hop,h1],Or.inl rfl,h2,h3,h4⟩
 ·rename_i t x s y hop
  obtain⟨w',h1,h2,h3,h4⟩:=D6 (P:=P) (t:=t) h hB (hev x (by simp[hop,Op.operands])) (hev s (by simp[hop,Op.operands])) (hev y (by simp[hop,Op.operands])) he
  exact⟨_,undef,w',E,by simp[execOp,hop,h1],Or.inr ⟨rfl,rfl⟩,h2,h3,h4⟩
 ·rename_i t x k v hop
  obtain⟨w',h1,h2,h3,h4⟩:=D7 T h hB (hev x (by simp[hop,Op.operands])) (hev k (by simp[hop,Op.operands])) (hev v (by simp[hop,Op.operands])) he hvc
  exact⟨_,undef,w',E,by simp[execOp,hop,h1],Or.inr ⟨rfl,rfl⟩,h2,h3,h4⟩
 ·rename_i t x k ok hop
  obtain⟨⟨u,vc⟩,hu,rfl⟩:=Option.map_eq_some_iff.1 he
  obtain⟨v,h1,h2⟩:=A8 T h.hw hB (hev x (by simp[hop,Op.operands])) (hev k (by simp[hop,Op.operands])) hu hvc
  exact bS.same h (v:=v) (by simp[execOp,hop,h1]) h2
 ·rename_i s d x hop
  obtain⟨v,w',E',h1,h2,h3,h4⟩:=A2 T h hB (hev x (by simp[hop,Op.operands])) he hvc
  exact⟨_,v,w',E',by simp[execOp,hop,h1],Or.inl rfl,h2,h3,h4⟩
 ·rename_i t x i hop
  obtain⟨u,hu,rfl⟩:=Option.map_eq_some_iff.1 he
  obtain⟨v,h1,h2⟩:=A3 T (hev x (by simp[hop,Op.operands])) hu
  exact bS.same h (v:=v) (by simp[execOp,hop,h1]) h2
 grind
end Go.Ax
noncomputable section
namespace Go.Ax
theorem qQ:∀{l m:List VC},dB (l++m)→dB l∧dB m
 |[],_,h=>⟨trivial,h⟩
 |_::_l,_,h=>⟨⟨h.1,(qQ h.2).1⟩,(qQ h.2).2⟩
def fR(need:List Nat)(hp:List (Option aN))(b:Nat):Option aN:=if cK b need then(hp[b]?).join else none
def Fq:Operand→List Nat
 | .tmp t=>[t]
 |_=>[]
def slotsOf(l:List Operand):List Nat:=l.flatMap Fq
def kr(ops:Array Oper)(o:Oper):Option Nat:=
 match o.guard with
 |none=>none
 |some (j,_)=>(ops[j]?).bind (·.dst)
def Oh:Bool→Bool→Bool
 |true,b=>b
 |false,b=> !b
def guardOf(ops:Array Oper)(tm:List AV)(o:Oper):Option Bool:=
 match o.guard with
 |none=>some true
 |
  some (j,want)=>match(ops[j]?).bind (·.dst) with
  |
   some t=>match tm[t]? with
   |some (.val .bool b)=>some (Oh b want)
   |some (.gk .nil)=>some false
   |_=>none
  |none=>none
def KY:Option Nat→Nat
 |some d=>d+16
 |none=>16
def kQ:Op→Bool
 | .call {callee:=.builtin _, .. }=>false
 | .call _=>true
 |_=>false
def lZ(P:Program)(G:bO)(d:Nat)(op:Op)(ev:Operand→AV)(hb:Nat→Option aN):Option fh:=
 match AM P G d op ev hb with
 |some e=>some e
 |
  none=>match um P G d op ev hb with
  |some e=>some e
  |
   none=>match uz P G d op ev with
   |some e=>some e
   |
    none=>match uB G op ev with
    |some e=>some e
    |
     none=>match tj P G op ev hb with
     |some e=>some e
     |
      none=>match tk G d op ev hb with
      |some e=>some e
      |none=>tn P G op ev hb
theorem Fs{P:Program}{G:bO}{d:Nat}{op:Op}{ev:Operand→AV}{hb:Nat→Option aN}{r:fh}(h:lZ P G d op ev hb=some r):∀c,op≠.defer c:=by
 grind [lZ,AM,um,uz,uB,tj,tk,tn]
theorem zd{P:Program}{G:bO}(T:bD P G){gl:Ctx}{σ:St}{E:Env}{a:Act}{w:World}(h:bW gl σ E a w){o:Oper}{d:Nat}{ev:Operand→AV}{hb:Nat→Option aN}(hB:HB hb σ.hp){r:fh}
 (hev:∀x∈o.op.operands.toList,RV E w (ev x) (a.eval x)) (hids:∀x∈o.op.operands.toList,∀b∈(ev x).ids,b∈σ.ids) (he:lZ P G d o.op ev hb=some r) (hvc:dB r.vc) (hfr:∀b∈r.fr,σ.fresh b):bS P gl σ E a w o r:=by
 grind [lZ,Ff,GY,Hb,Hc,Fl,Fm,Fp]
theorem ze{P:Program}{G:bO}{d:Nat}{ok:Bool}{t:TypeId}{x k:Operand}{ev:Operand→AV}{hb:Nat→Option aN}{r:fh}(h:lZ P G d (.lookup t x k ok) ev hb=some r){b:Nat}{k0:Ty}{l:List (k0.den×AV)}{k':k0.den}(hx:ev x= .mp b)(hbk:∀kb,hb b=some kb→kb= .gW k0 l)(hk:(ev k).bK k0=some k'):r.v=lr ok k0 k' l:=by
 have h2:um P G d (.lookup t x k ok) ev hb=none:=by
  show(mj P G hb t (ev x) (ev k) ok).map fh.He=none
  grind [mj,vZ]
 have h5:tj P G (.lookup t x k ok) ev hb=none:=by
  cases ok with
  |true=>rfl
  |
   false=>
   show(oE P G hb t (ev x) (ev k)).map fh.He=none
   unfold oE
   grind
 unfold lZ at h
 rw[show AM P G d (.lookup t x k ok) ev hb=none from rfl,h2,show uz P G d (.lookup t x k ok) ev=none from rfl,show uB G (.lookup t x k ok) ev=none from rfl,h5,show tk G d (.lookup t x k ok) ev hb=none from rfl] at h
 simp only[tn,fm] at h
 obtain⟨⟨u,vc⟩,hu,rfl⟩:=h
 unfold rX at hu
 rw[hx] at hu
 split at hu
 case h_2=>cases hu
 rename_i td b' ht heq
 cases heq
 split at hu
 case h_2=>cases hu
 rename_i k0' l' hh
 have:=hbk _ hh
 cases this
 split at hu
 case h_2=>cases hu
 rename_i kd vd k2 _ _ hk2
 rw[hk] at hk2;cases hk2
 split at hu
 ·cases hu;rfl
 grind
def iR(us:List Nat)(hb:Nat→Option aN):List (Nat×Option aN)→List (Nat×Option aN)×List VC
 |[]=>([],[])
 |
  x::l=>match x.2 with
  |some k=>if cK x.1 us then((iR us hb l).1,⟨hb x.1=some k,Classical.propDecidable _⟩::(iR us hb l).2) else(x::(iR us hb l).1,(iR us hb l).2)
  |none=>(x::(iR us hb l).1,(iR us hb l).2)
theorem nE{us:List Nat}{hb:Nat→Option aN}{hp0:List (Option aN)}(hB:HB hb hp0):∀{l:List (Nat×Option aN)}{hp:List (Option aN)},(∀b∈l.map (·.1),hp[b]? =hp0[b]?)→(l.map (·.1)).Nodup→dB (iR us hb l).2→aQ hp (iR us hb l).1=aQ hp l
 |[],_,_,_,_=>rfl
 |
  (b,k)::l,hp,h,hn,hv=>by
  simp only[dC,mX] at hn
  have zj:dB (iR us hb l).2→aQ (hp.set b k) (iR us hb l).1=aQ (hp.set b k) l:=fun hv=>nE hB (fun c hc=>by
   have:b≠c:=fun e=>hn.1 (e▸hc)
   rw[List.getElem?_set_ne this]
   exact h c (dT _ hc)) hn.2 hv
  cases k with
  |none=>simp only[iR] at hv ⊢;exact zj hv
  |
   some k=>
   by_cases hu:cK b us=true
   ·simp only[iR,aA hu] at hv ⊢
    have e:hp[b]? =some (some k):=by
     rw[h b (du ..)]
     exact hB b k hv.1
    have e2:hp.set b (some k)=hp:=by
     apply List.ext_getElem?
     intro i
     rw[dm]
     split
     ·rename_i hi;subst hi
      obtain⟨hlt,_⟩:=List.getElem?_eq_some_iff.1 e
      rw[aA hlt,e]
     ·rfl
    show aQ hp (iR us hb l).1=aQ (hp.set b (some k)) l
    rw[e2]
    exact nE hB (fun c hc=>h c (dT _ hc)) hn.2 hv.2
   ·simp only[iR,aC hu] at hv ⊢
    exact zj hv
theorem dB.app:∀{l m:List VC},dB (l++m)→dB l∧dB m
 |[],_,h=>⟨trivial,h⟩
 |_::_,_,h=>⟨⟨h.1,(dB.app h.2).1⟩,(dB.app h.2).2⟩
def tp(r:CR)(hb:Nat→Option aN)(x:fh×List Prop):Option (fh×List Prop):=match r.us with
 |[]=>some x
 |us=>if !r.j8&&j7 (x.1.hw.map (·.1)) then some (⟨x.1.v,(iR us hb x.1.hw).1,x.1.fr,x.1.vc++(iR us hb x.1.hw).2⟩,x.2) else none
theorem Ft{r:CR}{hb:Nat→Option aN}{hp:List (Option aN)}(hB:HB hb hp){x y:fh×List Prop}(h:tp r hb x=some y)(hv:dB y.1.vc):y.1.v=x.1.v∧y.1.fr=x.1.fr∧y.2=x.2∧aQ hp y.1.hw=aQ hp x.1.hw:=by
 unfold tp at h
 split at h
 ·grind
 ·split at h
  ·rename_i hc
   cases h
   simp only[aV] at hc
   exact⟨rfl,rfl,rfl,nE hB (fun _ _=>rfl) (fH hc.2) (dB.app hv).2⟩
  grind
theorem Iu{r:CR}{hb:Nat→Option aN}{x y:fh×List Prop}(h:tp r hb x=some y):y.2=x.2:=by
 grind [tp]
theorem D8{r:CR}(hp:r.j8=true){hb:Nat→Option aN}{x y:fh×List Prop}(h:tp r hb x=some y):y=x:=by
 grind [tp]
def l0(P:Program)(G:bO)(gl:Ctx)(d:Nat)(r:CR)(op:Op)(ev:Operand→AV)(hb:Nat→Option aN):Option (fh×List Prop):=
 match op with
 |
  .call c=>match c.callee with
  | .builtin _=>(lZ P G d (.call c) ev hb).map fun e=>(e,[])
  |_=>Option.bind (nT P G gl r ev hb c) (tp r hb)
 |op=>(lZ P G d op ev hb).map fun e=>(e,[])
def P1:List (Nat×Ty)→Nat→Option Ty
 |[],_=>none
 |(t,ty)::l,x=>if Nat.beq t x then some ty else P1 l x
def D9(hb:Nat→Option aN)(z:List (Nat×Ty))(ev:Operand→AV):Operand→AV
 |
  .tmp t=>match P1 z t with
  |
   some ty=>match view hb (ev (.tmp t)) false ty with
   |some (y,_)=>if(ev (.tmp t)).plain then y else .bot
   |none=>.bot
  |none=>ev (.tmp t)
 |x=>ev x
def ku(hb:Nat→Option aN)(ev:Operand→AV):List (Nat×Ty)→List Nat
 |[]=>[]
 |
  (t,ty)::l=>(match view hb (ev (.tmp t)) false ty with
  |some (_,m)=>m
  |none=>[])++ku hb ev l
def lC(ev:Operand→AV):List (Nat×Ty)→List Nat
 |[]=>[]
 |(t,_)::l=>(ev (.tmp t)).ids++lC ev l
def ee:List Nat→List (Nat×Option aN)
 |[]=>[]
 |b::l=>(b,none)::ee l
def Fu:List (Nat×Ty)→List Nat
 |[]=>[]
 |(t,_)::l=>t::Fu l
def KZ:List (Nat×Nat×Ty)→Nat→List (Nat×Ty)
 |[],_=>[]
 |(j,t,ty)::l,i=>if Nat.beq j i then(t,ty)::KZ l i else KZ l i
def dV(P:Program)(G:bO)(gl:Ctx)(ops:Array Oper)(r:CR)(z:List (Nat×Ty))(σ:St)(i:Nat):Option (aU×List VC×List Prop):=
 match ops[i]? with
 |none=>none
 |
  some o=>
  match guardOf ops σ.tm o with
  |none=>none
  |some false=>some (⟨(kr ops o).toList,[],[],o.dst,.gk .nil,[]⟩,[],[])
  |
   some true=>
   match z with
   |
    []=>(match l0 P G gl (KY o.dst) r o.op (bF gl σ.tm) (fR (qK o.op (bF gl σ.tm)++r.ps.map (·.2)) σ.hp) with
    |none=>none
    |some (e,ob)=>some (⟨slotsOf o.op.operands.toList++(kr ops o).toList,qK o.op (bF gl σ.tm)++r.ps.map (·.2),e.fr,o.dst,e.v,e.hw⟩,e.vc,ob))
   |
    z=>(match l0 P G gl (KY o.dst) r o.op (D9 (fR (lC (bF gl σ.tm) z) σ.hp) z (bF gl σ.tm)) (fR (qK o.op (D9 (fR (lC (bF gl σ.tm) z) σ.hp) z (bF gl σ.tm))++r.ps.map (·.2)) (aQ σ.hp (ee (ku (fR (lC (bF gl σ.tm) z) σ.hp) (bF gl σ.tm) z)))) with
    |none=>none
    |some (e,ob)=>some (⟨slotsOf o.op.operands.toList++Fu z++(kr ops o).toList,lC (bF gl σ.tm) z++(qK o.op (D9 (fR (lC (bF gl σ.tm) z) σ.hp) z (bF gl σ.tm))++r.ps.map (·.2)),e.fr,o.dst,e.v,ee (ku (fR (lC (bF gl σ.tm) z) σ.hp) (bF gl σ.tm) z)++e.hw⟩,e.vc,ob))
theorem fD{gl:Ctx}{σ:St}{E:Env}{a:Act}{w:World}(h:bW gl σ E a w){ops:Array Oper}{o:Oper}{c:Bool}(hc:guardOf ops σ.tm o=some c):Region.wanted o (yielded ops a.tmps)=c:=by
 unfold guardOf at hc
 unfold Region.wanted
 split at hc
 ·grind
 ·rename_i j want hg
  rw[hg]
  split at hc
  ·rename_i t ht
   have hy:∀v,a.tmps[t]? =some v→yielded ops a.tmps j=(match v with| .bool b=>some b|_=>none):=by
    grind [yielded]
   split at hc
   ·rename_i b hb
    cases hc
    have hlt:t<a.tmps.size:=by rw[h.len];grind
    have hr:=h.tm t _ hb a.tmps[t] (by grind)
    have hv:=RV.dQ hr
    simp only
    rw[hy a.tmps[t] (by grind),hv]
    cases want<;>cases b<;>rfl
   ·rename_i hb
    cases hc
    have hlt:t<a.tmps.size:=by rw[h.len];grind
    obtain⟨vs,e,_⟩:=h.tm t _ hb a.tmps[t] (by grind)
    simp_all
   grind
  grind
theorem iF{gl:Ctx}{σ σ':St}{rt rb:List Nat}(ha:jr σ σ' rt rb){x:Operand}(hx:∀t∈Fq x,t∈rt):bF gl σ'.tm x=bF gl σ.tm x:=by
 cases x with
 |tmp t=>simp only[bF];rw[ha.tm t (hx t (by simp[Fq]))]
 |_=>rfl
theorem fS{σ σ':St}{rt rb:List Nat}(ha:jr σ σ' rt rb){ops:Array Oper}{o:Oper}(hx:∀t∈(kr ops o).toList,t∈rt):guardOf ops σ'.tm o=guardOf ops σ.tm o:=by
 unfold guardOf
 unfold kr at hx
 split
 ·rfl
 ·rename_i j want hg
  rw[hg] at hx
  simp only at hx
  split
  ·rename_i t ht
   rw[ht] at hx
   rw[ha.tm t (hx t (by simp))]
  ·rfl
theorem kv{σ σ':St}{rt need:List Nat}(ha:jr σ σ' rt need):HB (fR need σ.hp) σ'.hp:=by
 intro b k hk
 unfold fR at hk
 split at hk
 ·rename_i hn
  have hm:b∈need:=by
   have key:∀l:List Nat,cK b l=true→b∈l:=by
    intro l
    induction l with
    |nil=>intro h;cases h
    |
     cons x l ih=>
     intro h
     simp only[cK,fN] at h
     rcases h with h|h<;>simp_all
   grind
  rw[ha.hp b hm]
  grind
 grind
theorem sV.wp{P:Program}{gl:Ctx}{σ:St}{E:Env}{a:Act}{w:World}{o:Oper}{r:fh}(h:sV P gl σ E a w o r){K:Act→World→Prop}{Q:Exit→Act→World→Prop}{x:AV}
 (hx:∀E' w' v,RV E' w' r.v v→RV E' w' x v) (hk:∀E' a' w',bW gl (({σ with hp:=aQ σ.hp r.hw}:St).put o.dst x) E' a' w'→Ext gl.md (Own σ.hp E) E w (Own (aQ σ.hp r.hw) E') E' w'→K a' w'):o.wpIn (Wd gl) 0 P a w K Q:=
 h K Q (fun E' v w' h1 h2 h3=>hk E' _ w' (h1.put o.dst (hx E' w' v h2)) h3)
theorem zf{P:Program}{G:bO}(T:bD P G){gl:Ctx}{σ:St}{E:Env}{a:Act}{w:World}(h:bW gl σ E a w){o:Oper}{d:Nat}{x:CR}(ac9:x.j8=false){ev:Operand→AV}{hb:Nat→Option aN}(hB:HB hb σ.hp){r:fh}{ob:List Prop}
 (hev:∀x∈o.op.operands.toList,RV E w (ev x) (a.eval x)) (hids:∀x∈o.op.operands.toList,∀b∈(ev x).ids,b∈σ.ids) (he:l0 P G gl d x o.op ev hb=some (r,ob)) (hvc:dB r.vc) (hob:∀p∈ob,p) (hfr:∀b∈r.fr,σ.fresh b):sV P gl σ E a w o r:=by
 unfold l0 at he
 split at he
 ·rename_i c hop
  split at he
  ·simp only[fm,gJ] at he
   obtain⟨e,he,rfl,_⟩:=he
   exact(zd T h hB hev hids (by rw[hop];exact he) hvc hfr).to (by grind)
  ·simp only[qC] at he
   obtain⟨⟨e,ob'⟩,he,hk⟩:=he
   obtain⟨k1,k2,k3,k4⟩:=Ft hB hk hvc
   simp only at k1 k2 k3 k4
   subst k3
   have:=Ez T h hop hB ac9 hev he hob (by grind)
   intro K Q hK
   refine this K Q ?_<;>grind
 ·simp only[fm,gJ] at he
  obtain⟨e,he,rfl,_⟩:=he
  exact(zd T h hB hev hids he hvc hfr).to (Fs he)
theorem l4:∀(l m:List (Nat×Option aN))(hp:List (Option aN)),aQ hp (l++m)=aQ (aQ hp l) m
 |[],_,_=>rfl
 |(b,k)::l,m,hp=>by simp only[List.cons_append,aQ];exact l4 l m _
theorem dn:∀{l:List Nat}{hp:List (Option aN)}{b:Nat}{k:aN},(aQ hp (ee l))[b]? =some (some k)→b∉l∧hp[b]? =some (some k)
 |[],hp,b,k,h=>⟨by simp,h⟩
 |
  c::l,hp,b,k,h=>by
  simp only[ee,aQ] at h
  obtain⟨h1,h2⟩:=dn h
  grind
theorem bW.Yb{gl:Ctx}{σ:St}{E:Env}{a:Act}{w:World}(h:bW gl σ E a w){l:List Nat}(hl:∀b∈l,∃k,σ.hp[b]? =some (some k)):
 bW gl {σ with hp:=aQ σ.hp (ee l)} (E.cN l) a w∧Ext gl.md (Own σ.hp E) E w (Own (aQ σ.hp (ee l)) (E.cN l)) (E.cN l) w:=by
 have hk:bJ E w (E.cN l) w:=Env.dA l
 have on:∀ids,E.on (E.cN l) ids:=fun ids b _=>⟨rfl,rfl,rfl⟩
 refine⟨⟨h.len,fun i x hi v hv=>RV.mono hk (on _) (h.tm i x hi v hv),⟨?_,?_,?_,?_,h.hw.fI hk,fun b k g hb=>h.hw.qE b k g (dn hb).2⟩,RD.mono hk (fun _ _=>on _) h.df⟩,⟨rfl,Tp.r rfl rfl,rfl,cL _,fun _ _ _=>rfl,fun g hg=>Or.inl hg,?_,?_,fun _ _=>⟨rfl,rfl,rfl⟩⟩⟩
 ·intro b k hb
  exact RB.mono hk (on _) (fun _ _=>rfl) (fun _ _ h=>h) (h.hw.cE b k (dn hb).2)
 ·intro b b' k k' g hb hb' h1 h2
  exact h.hw.dG b b' k k' g (dn hb).2 (dn hb').2 h1 h2
 ·intro b k g hb hg hs
  obtain⟨h1,h2⟩:=dn hb
  rcases hs with hs|⟨c,hc,e⟩
  ·exact h.hw.dh b k g h2 hg hs
  ·obtain⟨k',hk'⟩:=hl c hc
   have:=h.hw.dG c b k' k g hk' h2 (Or.inl e) hg
   grind
 ·rintro g (hs|⟨c,hc,e⟩)
  ·exact h.hw.slt g hs
  ·obtain⟨k',hk'⟩:=hl c hc
   exact Own.below h.hw ⟨c,k',hk',Or.inl e⟩
 ·rintro g (hs|⟨c,hc,e⟩)
  ·grind
  ·obtain⟨k',hk'⟩:=hl c hc
   exact Or.inr (Or.inl ⟨c,k',hk',Or.inl e⟩)
 ·rintro g ⟨b,k,hb,hg⟩
  exact Or.inl ⟨b,k,(dn hb).2,hg⟩
theorem nF{hb:Nat→Option aN}{ev:Operand→AV}:∀{z:List (Nat×Ty)}{b:Nat},b∈ku hb ev z→∃k,hb b=some k
 |[],b,h=>by cases h
 |
  (t,ty)::l,b,h=>by
  simp only[ku,j4] at h
  rcases h with h|h
  ·split at h
   ·rename_i y m hv;exact pL hv b h
   ·cases h
  ·exact nF h
theorem zg{hb:Nat→Option aN}{ev:Operand→AV}{t:Nat}{ty:Ty}{y:AV}{m:List Nat}(hv:view hb (ev (.tmp t)) false ty=some (y,m)):∀{z:List (Nat×Ty)},P1 z t=some ty→∀b∈m,b∈ku hb ev z
 |[],h,b,hbm=>by cases h
 |
  (t',ty')::l,h,b,hbm=>by
  simp only[P1] at h
  simp only[ku,j4]
  split at h
  ·rename_i e
   have e:=bR e
   subst e;cases h
   left;rw[hv];exact hbm
  ·exact Or.inr (zg hv h b hbm)
theorem Fv{gl:Ctx}{σ:St}{E:Env}{a:Act}{w:World}(h:bW gl σ E a w){hb:Nat→Option aN}(hB:HB hb σ.hp){z:List (Nat×Ty)}{ev:Operand→AV}{x:Operand}(hx:RV E w (ev x) (a.eval x)):RV (E.cN (ku hb ev z)) w (D9 hb z ev x) (a.eval x):=by
 have hk:bJ E w (E.cN (ku hb ev z)) w:=Env.dA _
 have triv:RV (E.cN (ku hb ev z)) w (ev x) (a.eval x):=RV.mono hk (fun b _=>⟨rfl,rfl,rfl⟩) hx
 unfold D9
 split
 ·rename_i t
  split
  ·rename_i ty hty
   split
   ·rename_i y m hv
    split
    ·rename_i hp
     have h1:=yR h.hw hB hv (RV.je hp hx)
     refine RV.dK (cC.mono (E:=E.cN m) (Env.ij (fun b hb'=>zg hv hty b hb')) (fun b _=>⟨rfl,rfl,rfl⟩) h1)
    trivial
   trivial
  grind
 grind
theorem Iv{hb:Nat→Option aN}{z:List (Nat×Ty)}{ev:Operand→AV}{x:Operand}:∀b∈(D9 hb z ev x).ids,b∈(ev x).ids:=by
 unfold D9
 intro b hb'
 split at hb'
 ·split at hb'
  ·split at hb'
   ·rename_i y m hv
    split at hb'
    ·rw[qx hv] at hb';cases hb'
    trivial
   trivial
  grind
 grind
theorem Ea{σ:St}{l:List Nat}{d:Nat}(h:σ.fresh d):({σ with hp:=aQ σ.hp (ee l)}:St).fresh d:=by
 refine⟨?_,fun k hk=>h.2.1 k (dn hk).2,h.2.2⟩
 have h1:=kN.1 h.1
 exact kN.2 ⟨h1.1,h1.2.1,fun i k hk=>h1.2.2 i k (dn hk).2⟩
theorem mu{P:Program}{G:bO}(T:bD P G){gl:Ctx}{ops:Array Oper}{r:CR}(ac9:r.j8=false){z:List (Nat×Ty)}{σ:St}{i:Nat}{f:aU}{vc:List VC}{ob:List Prop}(h:dV P G gl ops r z σ i=some (f,vc,ob))(hvc:dB vc)(hob:∀p∈ob,p):uE P gl ops i f σ:=by
 unfold dV at h
 split at h
 ·cases h
 ·rename_i o ho
  split at h
  ·cases h
  ·rename_i hc
   cases h
   intro σ' ha hfr E a w hg K Q hK
   unfold wpOpIn
   simp only[ho]
   have hw:=fD hg (ops:=ops) (o:=o) (c:=false) (by grind [fS])
   rw[hw]
   simp only[cJ,bY]
   exact⟨fun _ _=>trivial,hK E _ w (hg.put o.dst ⟨#[],rfl,rfl⟩) (by rw[gL];exact Ext.refl _ _ _)⟩
  ·rename_i hc
   split at h
   ·split at h
    ·cases h
    ·rename_i e ob he
     cases h
     intro σ' ha hfr E a w hg K Q hK
     unfold wpOpIn
     simp only[ho]
     have hw:=fD hg (ops:=ops) (o:=o) (c:=true) (by grind [fS])
     rw[hw]
     simp only[bH]
     have ex:∀u,u∈o.op.operands.toList→bF gl σ'.tm u=bF gl σ.tm u:=fun u hu=>iF ha (fun t ht=>by grind [slotsOf])
     have hs:sV P gl σ' E a w o e:=by
      refine zf T hg ac9 (kv ha) (ev:=bF gl σ.tm) ?_ ?_ he hvc hob hfr
      ·grind [fQ]
      grind [uW]
     exact hs.wp (x:=e.v) (fun _ _ _ h=>h) (fun E' a' w' h1 h2=>hK E' a' w' h1 (by rw[gL];exact h2))
   ·split at h
    ·cases h
    ·rename_i e ob he
     cases h
     intro σ' ha hfr E a w hg K Q hK
     unfold wpOpIn
     simp only[ho]
     have hw:=fD hg (ops:=ops) (o:=o) (c:=true) (by grind [fS])
     rw[hw]
     simp only[bH]
     have ex:∀u,u∈o.op.operands.toList→bF gl σ'.tm u=bF gl σ.tm u:=fun u hu=>iF ha (fun t ht=>by grind [slotsOf])
     have ha1:jr σ σ' [] (lC (bF gl σ.tm) z):=⟨ha.tl,ha.hl,fun _ h=>(List.not_mem_nil h).elim,fun b hb=>ha.hp b (List.mem_append.2 (Or.inl hb))⟩
     have hB1:=kv ha1
     generalize hl:ku (fR (lC (bF gl σ.tm) z) σ.hp) (bF gl σ.tm) z=l at he hK
     have hlk:∀b∈l,∃k,σ'.hp[b]? =some (some k):=by
      intro b hb
      rw[←hl] at hb
      obtain⟨k,hk⟩:=nF hb
      exact⟨k,hB1 b k hk⟩
     obtain⟨g1,x1⟩:=hg.Yb hlk
     have ha2:jr {σ with hp:=aQ σ.hp (ee l)} {σ' with hp:=aQ σ'.hp (ee l)} [] (qK o.op (D9 (fR (lC (bF gl σ.tm) z) σ.hp) z (bF gl σ.tm))++r.ps.map (·.2)):=
      ⟨ha.tl,by simp only[kj];exact ha.hl,fun _ h=>(List.not_mem_nil h).elim,fun b hb=>ig ha.hl (ha.hp b (List.mem_append.2 (Or.inr hb)))⟩
     have hs:sV P gl {σ' with hp:=aQ σ'.hp (ee l)} (E.cN l) a w o e:=by
      refine zf T g1 ac9 (kv ha2) (ev:=D9 (fR (lC (bF gl σ.tm) z) σ.hp) z (bF gl σ.tm)) ?_ ?_ he hvc hob (fun b hb=>Ea (hfr b hb))
      ·grind [fQ,Fv]
      ·intro x hx b hb
       have hb:=Iv b hb
       rw[←ex x hx] at hb
       exact uW (σ:={σ' with hp:=aQ σ'.hp (ee l)}) b hb
     refine hs.wp (x:=e.v) (fun _ _ _ h=>h) (fun E' a' w' h1 h2=>hK E' a' w' ?_ ?_)
     ·grind [l4,St.app]
     ·rw[gL];simp only[l4];exact x1.trans h2
def zh(P:Program)(gl:Ctx)(ops:Array Oper)(i:Nat)(f:aU)(σ:St):Prop:=
 ∀σ',jr σ σ' f.rt f.rb→∀E a w,bW gl σ' E a w→∀(K:Act→World→Prop)(Q:Exit→Act→World→Prop),
  (∀E' u w',bW gl {σ' with hp:=aQ σ'.hp f.hw} E' a w'→RV E' w' f.v u→Ext gl.md (Own σ'.hp E) E w (Own (aQ σ'.hp f.hw) E') E' w'→Q (.panic [{v:=u,recovered:=false}]) a w')→wpOpIn (Wd gl) 0 P ops Q i K a w
theorem vg{P:Program}{G:bO}(T:bD P G){gl:Ctx}{σ:St}{E:Env}{a:Act}{w:World}(h:bW gl σ E a w){o:Oper}{d:Nat}{x:CR}(ac9:x.j8=true)(hcl:kQ o.op=true){ev:Operand→AV}{hb:Nat→Option aN}(hB:HB hb σ.hp){r:fh}{ob:List Prop}
 (hev:∀x∈o.op.operands.toList,RV E w (ev x) (a.eval x)) (he:l0 P G gl d x o.op ev hb=some (r,ob)) (hob:∀p∈ob,p) (hfr:∀b∈r.fr,σ.fresh b) {K:Act→World→Prop} {Q:Exit→Act→World→Prop}
 (hQ:∀E' v w',bW gl {σ with hp:=aQ σ.hp r.hw} E' a w'→RV E' w' r.v v→Ext gl.md (Own σ.hp E) E w (Own (aQ σ.hp r.hw) E') E' w'→Q (.panic [{v:=v,recovered:=false}]) a w'):o.wpIn (Wd gl) 0 P a w K Q:=by
 unfold l0 at he
 split at he
 ·rename_i c hop
  split at he
  ·rename_i b hb'
   rw[hop] at hcl
   obtain⟨ca,asz,ts⟩:=c
   grind [kQ]
  ·simp only[qC] at he
   grind [D8,uv]
 simp_all[kQ]
theorem A9{P:Program}{G:bO}(T:bD P G){gl:Ctx}{ops:Array Oper}{r:CR}(ac9:r.j8=true){z:List (Nat×Ty)}{σ:St}{i:Nat}{f:aU}{vc:List VC}{ob:List Prop}{o:Oper}(ho:ops[i]? =some o)(hgd:guardOf ops σ.tm o=some true)(hcl:kQ o.op=true)
 (h:dV P G gl ops r z σ i=some (f,vc,ob)) (hob:∀p∈ob,p) (hnf:f.fr= []):zh P gl ops i f σ:=by
 unfold dV at h
 simp only[ho,hgd] at h
 split at h
 ·split at h
  ·cases h
  ·rename_i e ob he
   cases h
   simp only at hnf
   intro σ' ha E a w hg K Q hQ
   unfold wpOpIn
   simp only[ho]
   have hw:=fD hg (ops:=ops) (o:=o) (c:=true) (by grind [fS])
   rw[hw]
   simp only[bH]
   have ex:∀u,u∈o.op.operands.toList→bF gl σ'.tm u=bF gl σ.tm u:=fun u hu=>iF ha (fun t ht=>by grind [slotsOf])
   refine vg T hg ac9 hcl (kv ha) (ev:=bF gl σ.tm) ?_ he hob (fun b hb=>by grind) hQ
   grind [fQ]
 ·split at h
  ·cases h
  ·rename_i e ob he
   cases h
   simp only at hnf
   intro σ' ha E a w hg K Q hQ
   unfold wpOpIn
   simp only[ho]
   have hw:=fD hg (ops:=ops) (o:=o) (c:=true) (by grind [fS])
   rw[hw]
   simp only[bH]
   have ex:∀u,u∈o.op.operands.toList→bF gl σ'.tm u=bF gl σ.tm u:=fun u hu=>iF ha (fun t ht=>by grind [slotsOf])
   have ha1:jr σ σ' [] (lC (bF gl σ.tm) z):=⟨ha.tl,ha.hl,fun _ h=>(List.not_mem_nil h).elim,fun b hb=>ha.hp b (List.mem_append.2 (Or.inl hb))⟩
   have hB1:=kv ha1
   generalize hl:ku (fR (lC (bF gl σ.tm) z) σ.hp) (bF gl σ.tm) z=l at he hQ
   have hlk:∀b∈l,∃k,σ'.hp[b]? =some (some k):=by
    intro b hb
    rw[←hl] at hb
    obtain⟨k,hk⟩:=nF hb
    exact⟨k,hB1 b k hk⟩
   obtain⟨g1,x1⟩:=hg.Yb hlk
   have ha2:jr {σ with hp:=aQ σ.hp (ee l)} {σ' with hp:=aQ σ'.hp (ee l)} [] (qK o.op (D9 (fR (lC (bF gl σ.tm) z) σ.hp) z (bF gl σ.tm))++r.ps.map (·.2)):=
    ⟨ha.tl,by simp only[kj];exact ha.hl,fun _ h=>(List.not_mem_nil h).elim,fun b hb=>ig ha.hl (ha.hp b (List.mem_append.2 (Or.inr hb)))⟩
   refine vg T g1 ac9 hcl (kv ha2) (ev:=D9 (fR (lC (bF gl σ.tm) z) σ.hp) z (bF gl σ.tm)) ?_ he hob (fun b hb=>by grind) ?_
   ·grind [fQ,Fv]
   ·intro E' u w' q1 q2 q3
    refine hQ E' u w' ?_ q2 ?_
    ·simp only[l4] at q1 ⊢;exact q1
    ·simp only[l4];exact x1.trans q3
def uJ(ops:Array Oper)(i:Nat):Bool:=
 match ops[i]? with
 |some o=>kQ o.op
 |none=>false
def Fw:List Oper→Nat→Bool
 |[],_=>false
 |o::l,i=>(match o.guard with|some (j,_)=>Nat.beq i j|none=>false)||Fw l i
end Go.Ax
namespace Go.Ax
section
variable{P:Program} {b:Frame} {a:Act} {k:List Item} {cs:List Frame} {w:World}
theorem gA{c:Code}:step P (lone (b.atR a (.code (.scope c)::k)) cs w)= .next (lone (b.atR a (.code c::.inScope c::k)) cs w):=
 step_lone_go (by trivial)
theorem uK{c:Code}:step P (lone (b.atR a (.inScope c::k)) cs w)= .next (lone (b.atR a k) cs w):=
 step_lone_go (by trivial)
def noGoto(Q:Exit→Act→World→Prop):Exit→Act→World→Prop
 | .goto _,_,_=>False
 |e,a,w=>Q e a w
theorem Ba{F:Fence}{n:Nat}{Q:Exit→Act→World→Prop}{c:Code}(h:c.wpIn F n P (noGoto Q) a w):(Code.scope c).wpIn F n P Q a w:=by
 intro b k cs hro hb hr
 have h0:(lone (b.atR a (.code (.scope c)::k)) cs w).fenced P F:=fenced_calm hb hr rfl
 obtain⟨e,a₁,w₁,hq,adg⟩:=h b (.inScope c::k) cs hro hb hr
 cases e with
 |normal=>exact⟨.normal,a₁,w₁,hq,.head h0 gA (StepsIn.trans adg (.one (fenced_calm hb hr rfl) uK))⟩
 |
  exit id=>
  have hx:exitTo id (.inScope c::k)=exitTo id k:=by trivial
  exact⟨.exit id,a₁,w₁,hq,fun k' hk=>.head h0 gA (adg.1 k' (by grind)),
   fun hr' hk=>let⟨k₁,h1,h2⟩:=adg.2 hr' (by grind);⟨k₁,h1,.head h0 gA h2⟩⟩
 |goto l=>trivial
 |ret=>exact⟨_,a₁,w₁,hq,.of_steps (.one h0 gA) adg⟩
 |panic ch=>exact⟨_,a₁,w₁,hq,.of_steps (.one h0 gA) adg⟩
 |outgrown=>exact⟨_,a₁,w₁,hq,.of_steps (.one h0 gA) adg⟩
end
inductive fE where
 |normal
 |exit (id:Nat)
 |ret
 |panic (v:AV)
def ExR(E:Env)(w:World):fE→Exit→Prop
 | .normal,.normal=>True
 | .exit i,.exit j=>i=j
 | .ret,.ret=>True
 | .panic x,.panic chain=>∃u,chain= [{v:=u,recovered:=false}]∧cC E w x u
 |_,_=>False
def oF(gl:Ctx)(Q:fE→St→Prop)(σ:St)(E:Env)(w:World)(ex:Exit)(a':Act)(w':World):Prop:=
 ∃x σ' E',ExR E' w' x ex∧Q x σ'∧bW gl σ' E' a' w'∧Ext gl.md (Own σ.hp E) E w (Own σ'.hp E') E' w'
def cP(P:Program)(gl:Ctx)(c:Code)(σ:St)(Q:fE→St→Prop):Prop:=
 ∀E a w,bW gl σ E a w→c.wpIn (Wd gl) 0 P (oF gl Q σ E w) a w
section
variable{P:Program} {gl:Ctx} {σ:St} {Q:fE→St→Prop}
theorem cP.mono{c:Code}{Q':fE→St→Prop}(h:cP P gl c σ Q)(hq:∀x σ',Q x σ'→Q' x σ'):cP P gl c σ Q':=
 fun E a w hg=>wpIn_mono (h E a w hg) (fun _ _ _ ⟨x,σ',E',h1,h2,h3⟩=>⟨x,σ',E',h1,hq _ _ h2,h3⟩)
theorem cP.skip(h:Q .normal σ):cP P gl .skip σ Q:=fun E _a _w hg=>wpIn_skip ⟨.normal,σ,E,trivial,h,hg,Ext.refl _ _ _⟩
theorem cP.label{l:Nat}(h:Q .normal σ):cP P gl (.label l) σ Q:=fun E _a _w hg=>wpIn_label ⟨.normal,σ,E,trivial,h,hg,Ext.refl _ _ _⟩
theorem cP.scope{c:Code}(h:cP P gl c σ Q):cP P gl (.scope c) σ Q:=fun E a w hg=>Ba (wpIn_mono (h E a w hg) fun ex a' w' hp=>by
 cases ex with
 |goto l=>obtain⟨x,_,_,h1,_⟩:=hp;cases x<;>exact h1.elim
 |_=>exact hp)
theorem cP.exit{i:Nat}(h:Q (.exit i) σ):cP P gl (.exit i) σ Q:=fun E _a _w hg=>wpIn_exit ⟨.exit i,σ,E,rfl,h,hg,Ext.refl _ _ _⟩
theorem cP.ret(h:Q .ret σ):cP P gl .ret σ Q:=fun E _a _w hg=>wpIn_ret ⟨.ret,σ,E,trivial,h,hg,Ext.refl _ _ _⟩
def Oi(P:Program)(gl:Ctx)(y:Code)(Q:fE→St→Prop):fE→St→Prop
 | .normal,σ=>cP P gl y σ Q
 |x,σ=>Q x σ
theorem cP.seq{x y:Code}(h:cP P gl x σ (Oi P gl y Q)):cP P gl (.seq x y) σ Q:=by
 intro E a w hg
 refine wpIn_seq (wpIn_mono (h E a w hg) ?_)
 rintro ex a1 w1 ⟨x1,σ1,E1,h1,h2,h3,h4⟩
 cases ex with
 |
  normal=>
  cases x1 with
  |
   normal=>
   refine wpIn_mono (h2 E1 a1 w1 h3) ?_
   rintro e2 a2 w2 ⟨x2,σ2,E2,k1,k2,k3,k4⟩
   exact⟨x2,σ2,E2,k1,k2,k3,h4.trans k4⟩
  |_=>trivial
 |
  _=>
  cases x1 with
  |normal=>trivial
  |_=>exact⟨_,σ1,E1,h1,h2,h3,h4⟩
theorem cP.cond{c:Operand}{x y:Code}{b:Bool}(hc:bF gl σ.tm c= .val .bool b)(ht:b=true→cP P gl x σ Q)(hf:b=false→cP P gl y σ Q):cP P gl (.cond c x y) σ Q:=by
 intro E a w hg
 have hv:=fQ hg c
 rw[hc] at hv
 exact wpIn_cond_split (RV.dQ hv) (fun h=>ht h E a w hg) (fun h=>hf h E a w hg)
def xe(id:Nat)(Q:fE→St→Prop):fE→St→Prop
 | .exit i,σ=>if i=id then Q .normal σ else Q (.exit i) σ
 |x,σ=>Q x σ
theorem cP.block{id:Nat}{c:Code}(h:cP P gl c σ (xe id Q)):cP P gl (.block id c) σ Q:=by
 intro E a w hg
 refine wpIn_block (wpIn_mono (h E a w hg) ?_)
 rintro ex a1 w1 ⟨x1,σ1,E1,h1,h2,h3,h4⟩
 cases ex with
 |
  exit i=>
  cases x1 with
  |
   exit j=>
   have e:j=i:=h1
   subst e
   simp only[xe] at h2
   simp only[Exit.inBlock]
   split
   ·rename_i e;rw[aA e] at h2;exact⟨.normal,σ1,E1,trivial,h2,h3,h4⟩
   ·rename_i e;rw[aC e] at h2;exact⟨.exit j,σ1,E1,rfl,h2,h3,h4⟩
  |_=>trivial
 |_=>cases x1<;>first|exact h1.elim|exact⟨_,σ1,E1,h1,h2,h3,h4⟩
def Oj(R:Nat→St→Prop)(n:Nat)(Q:fE→St→Prop):fE→St→Prop
 | .normal,σ=>∃m,m<n∧R m σ
 |x,σ=>Q x σ
theorem cP.loop{c:Code}(R:Nat→St→Prop)(hR:∀n σ,R n σ→cP P gl c σ (Oj R n Q)){n:Nat}(h0:R n σ):cP P gl (.loop c) σ Q:=by
 intro E0 a0 w0 hg0 b k cs hro hb hr0
 have key:∀n σ1 E1 a1 w1,R n σ1→bW gl σ1 E1 a1 w1→Ext gl.md (Own σ.hp E0) E0 w0 (Own σ1.hp E1) E1 w1→
  ∃e a' w',oF gl Q σ E0 w0 e a' w'∧ArrivesIn (Machine.fenced P (Wd gl)) P (lone (b.atR a1 (.code c::.inLoop c::k)) cs w1) b k cs e a' w':=by
  intro n
  induction n using Nat.strongRecOn with
  |
   _ n ih=>
   intro σ1 E1 a1 w1 hr hg hx
   obtain⟨e,a2,w2,⟨x,σ2,E2,h1,h2,h3,h4⟩,adg⟩:=hR n σ1 hr E1 a1 w1 hg b (.inLoop c::k) cs hro hb hr0
   cases e with
   |
    normal=>
    cases x with
    |
     normal=>
     obtain⟨m,hm,hr2⟩:=h2
     obtain⟨e₂,a₂,w₂,hq₂,harr₂⟩:=ih m hm σ2 E2 a2 w2 hr2 h3 (hx.trans h4)
     exact⟨e₂,a₂,w₂,hq₂,.of_steps (StepsIn.trans adg (.one (fenced_calm hb hr0 rfl) stepR_inLoop)) harr₂⟩
    |_=>trivial
   |exit id=>exact⟨_,a2,w2,⟨x,σ2,E2,h1,by cases x<;>first|trivial|exact h2,h3,hx.trans h4⟩,.pass (x:=.inLoop c) rfl (fun _ _=>.inl (by simp)) adg⟩
   |goto l=>cases x<;>exact h1.elim
   |ret=>exact⟨_,a2,w2,⟨x,σ2,E2,h1,by cases x<;>first|trivial|exact h2,h3,hx.trans h4⟩,.pass (x:=.inLoop c) rfl (fun _ _=>.inl (by simp)) adg⟩
   |panic ch=>exact⟨_,a2,w2,⟨x,σ2,E2,h1,by cases x<;>first|trivial|exact h2,h3,hx.trans h4⟩,.pass (x:=.inLoop c) rfl (fun _ _=>.inl (by simp)) adg⟩
   |outgrown=>cases x<;>exact h1.elim
 obtain⟨e,a',w',hq,adg⟩:=key n σ E0 a0 w0 h0 hg0 (Ext.refl _ _ _)
 exact⟨e,a',w',hq,.of_steps (.one (fenced_calm hb hr0 rfl) stepR_loop) adg⟩
def kR(G:bO)(σ:St):List ResultVar→Option (List AV)
 |[]=>some []
 |
  .tmp t::l=>match σ.tm[t]?,kR G σ l with
  |some x,some xs=>if x.plain then some (x::xs) else none
  |_,_=>none
 |
  .cell t ty::l=>match σ.tm[t]?,kR G σ l with
  |
   some x,some xs=>match sO G (fun b=>(σ.hp[b]?).join) ty x with
   |some y=>if y.plain then some (y::xs) else none
   |none=>none
  |_,_=>none
def AV.ofList:List AV→AV
 |[]=>.nil
 |x::l=>.cons x (AV.ofList l)
def iS(G:bO)(rs:List ResultVar)(σ:St):Option AV:=
 match kR G σ rs with
 |some [x]=>some x
 |some l=>some (.gk (AV.ofList l))
 |none=>none
def prune:List (Option aN)→List Bool→List (Option aN)
 |x::l,true::m=>x::prune l m
 |_::l,false::m=>none::prune l m
 |_,[]=>[]
 |[],_=>[]
theorem jf{b:Nat}{k:aN}:∀{l:List (Option aN)}{m:List Bool},(prune l m)[b]? =some (some k)→l[b]? =some (some k):=by
 intro l
 induction l generalizing b with
 |nil=>intro m h;cases m<;>simp[prune] at h
 |
  cons x l ih=>
  intro m h
  cases m with
  |nil=>trivial
  |
   cons y m=>
   cases b with
   |zero=>cases y<;>simp[prune] at h;grind
   |succ b=>cases y<;>simp[prune] at h<;>simpa using ih h
theorem HW.prune{E:Env}{w:World}{hp:List (Option aN)}(h:HW gl E w hp)(m:List Bool):HW gl E w (Ax.prune hp m) where
 cE:=fun b k hb=>h.cE b k (jf hb)
 dG:=fun b b' k k' g h1 h2=>h.dG b b' k k' g (jf h1) (jf h2)
 dh:=fun b k g h1=>h.dh b k g (jf h1)
 qE:=fun b k g h1=>h.qE b k g (jf h1)
 slt:=h.slt
 gl:=h.gl
def zi(tmps:Array Value):ResultVar→Sem Value
 | .tmp t=>pure (tmps.getD t undef)
 | .cell c t=>do loadVar t (←asAddr (tmps.getD c undef))
theorem tq(fn:Func)(tmps:Array Value):results fn tmps=(do
 let vs ←fn.results.mapM (zi tmps)
 pure (if h:vs.size=1 then vs[0] else .tuple vs)):=by
 trivial
theorem nG{G:bO}(T:bD P G){E:Env}{a:Act}{w:World}(hg:bW gl σ E a w):∀{rs:List ResultVar}{xs:List AV},kR G σ rs=some xs→
 ∃vs:List Value,(rs.mapM (zi a.tmps)).run P w= .ok vs w∧RT E w (AV.ofList xs) vs∧vs.length=xs.length
 |[],xs,h=>by cases h;exact⟨[],by simp,rfl,rfl⟩
 |
  .tmp t::l,xs,h=>by
  unfold kR at h
  split at h
  ·rename_i x xs' hx hl
   split at h
   ·rename_i hp
    cases h
    obtain⟨vs,h1,h2,h3⟩:=nG T hg hl
    have hlt:t<a.tmps.size:=by rw[hg.len];exact(List.getElem?_eq_some_iff.1 hx).1
    have hv:=hg.tm t _ hx a.tmps[t] (by simp[hlt])
    refine⟨a.tmps[t]::vs,?_,⟨RV.je hp hv,h2⟩,by simp[h3]⟩
    simp only[List.mapM_cons,Sem.run_bind,zi,Sem.run_pure,Result.andThen_ok,h1]
    simp[hlt]
   ·cases h
  ·cases h
 |
  .cell t ty::l,xs,h=>by
  unfold kR at h
  split at h
  ·rename_i x xs' hx hl
   split at h
   ·rename_i y hy
    split at h
    ·rename_i hp
     cases h
     obtain⟨vs,h1,h2,h3⟩:=nG T hg hl
     have hlt:t<a.tmps.size:=by rw[hg.len];exact(List.getElem?_eq_some_iff.1 hx).1
     have hv:=hg.tm t _ hx a.tmps[t] (by simp[hlt])
     have hB:HB (fun b=>(σ.hp[b]?).join) σ.hp:=by
      intro b k hk
      cases hh:σ.hp[b]? with
      |none=>simp[hh] at hk
      |some z=>simp[hh] at hk;rw[hk]
     obtain⟨u,h4,h5⟩:=pF T hg.hw hB hv hy
     have h4':(do loadVar ty (←asAddr (a.tmps.getD t undef)):Sem Value).run P w= .ok u w:=by
      have e:a.tmps.getD t undef=a.tmps[t]:=by simp[hlt]
      rw[e]
      simp only[Instr.loadAt,Sem.run_bind] at h4 ⊢
      cases hq:a.tmps[t] with
      |
       pointer p=>
       cases p with
       |some ad=>rw[hq] at h4;simpa[Instr.sureAddr,asAddr] using h4
       |none=>rw[hq] at h4;simp[Instr.sureAddr] at h4
      |_=>rw[hq] at h4;simp[Instr.sureAddr] at h4
     refine⟨u::vs,?_,⟨RV.je hp h5,h2⟩,by simp[h3]⟩
     simp only[List.mapM_cons,Sem.run_bind,zi]
     simp only[Sem.run_bind] at h4'
     rw[h4']
     simp only[Result.andThen_ok,h1,Sem.run_pure]
    ·cases h
   ·cases h
  ·cases h
end
end Go.Ax
namespace Go.Ax
theorem oG{P:Program}{G:bO}(T:bD P G){gl:Ctx}{σ:St}{E:Env}{a:Act}{w:World}(hg:bW gl σ E a w){fn:Func}{x:AV}(h:iS G fn.results.toList σ=some x):∃v,(results fn a.tmps).run P w= .ok v w∧RV E w x v:=by
 have key:∀xs,kR G σ fn.results.toList=some xs→∃vs:Array Value,(fn.results.mapM (zi a.tmps)).run P w= .ok vs w∧RT E w (AV.ofList xs) vs.toList∧vs.toList.length=xs.length:=by
  intro xs hx
  obtain⟨vs,h1,h2,h3⟩:=nG T hg hx
  simp_all[Array.mapM_eq_mapM_toList]
 unfold iS at h
 split at h
 ·rename_i y hy
  cases h
  obtain⟨vs,h1,h2,h3⟩:=key _ hy
  obtain⟨l⟩:=vs
  cases l with
  |nil=>grind
  |
   cons v l=>
   cases l with
   |cons _ _=>grind
   |
    nil=>
    refine⟨v,?_,RV.dK h2.1⟩
    simp_all[tq]
 ·rename_i xs hne hxs
  cases h
  obtain⟨vs,h1,h2,h3⟩:=key _ hxs
  refine⟨.tuple vs,?_,⟨vs,rfl,h2⟩⟩
  rw[tq]
  simp only[Sem.run_bind]
  rw[h1]
  have:¬vs.size=1:=by
   intro e
   rw[pA,e] at h3
   match xs,h3 with
   |[y],_=>grind
  simp_all
 grind
end Go.Ax
namespace Go.Ax
def Wk(gl:Ctx)(σ σ':St):Prop:=
 ∀E a w,bW gl σ E a w→∃E',bW gl σ' E' a w∧Ext gl.md (Own σ.hp E) E w (Own σ'.hp E') E' w
theorem Wk.refl(gl:Ctx)(σ:St):Wk gl σ σ:=fun E _ _ h=>⟨E,h,Ext.refl _ _ _⟩
theorem Wk.trans{gl:Ctx}{σ σ1 σ2:St}(h:Wk gl σ σ1)(k:Wk gl σ1 σ2):Wk gl σ σ2:=fun E a w hg=>by
 obtain⟨E1,g1,x1⟩:=h E a w hg
 obtain⟨E2,g2,x2⟩:=k E1 a w g1
 exact⟨E2,g2,x1.trans x2⟩
def qR(ts:List Nat):Nat→List AV→List AV
 |_,[]=>[]
 |i,x::l=>(if cK i ts then x else .bot)::qR ts (i+1) l
def vj(bs:List Nat):Nat→List (Option aN)→List (Option aN)
 |_,[]=>[]
 |i,x::l=>(if cK i bs then x else none)::vj bs (i+1) l
theorem vn{ts:List Nat}:∀{l:List AV}{i j:Nat}{x:AV},(qR ts i l)[j]? =some x→x= .bot∨l[j]? =some x
 |[],i,j,x,h=>by trivial
 |
  y::l,i,0,x,h=>by
  grind [qR]
 |
  y::l,i,j+1,x,h=>by
  simp only[qR,sH] at h
  simpa using vn h
theorem vo{ts:List Nat}:∀{l:List AV}{i:Nat},(qR ts i l).length=l.length
 |[],_=>rfl
 |_::l,i=>by simp[qR,vo (l:=l)]
theorem pN{bs:List Nat}{k:aN}:∀{l:List (Option aN)}{i j:Nat},(vj bs i l)[j]? =some (some k)→l[j]? =some (some k)
 |[],i,j,h=>by trivial
 |
  y::l,i,0,h=>by
  grind [vj]
 |
  y::l,i,j+1,h=>by
  simp only[vj,sH] at h
  simpa using pN h
theorem HW.less{gl:Ctx}{E:Env}{w:World}{hp hp':List (Option aN)}(h:HW gl E w hp)(hs:∀(b:Nat)(k:aN),hp'[b]? =some (some k)→hp[b]? =some (some k)):HW gl E w hp' where
 cE:=fun b k hb=>h.cE b k (hs b k hb)
 dG:=fun b b' k k' g h1 h2=>h.dG b b' k k' g (hs _ _ h1) (hs _ _ h2)
 dh:=fun b k g h1=>h.dh b k g (hs _ _ h1)
 qE:=fun b k g h1=>h.qE b k g (hs _ _ h1)
 slt:=h.slt
 gl:=h.gl
theorem Wk.zj(gl:Ctx)(σ:St)(ts bs:List Nat):Wk gl σ ⟨qR ts 0 σ.tm,vj bs 0 σ.hp,σ.df⟩:=by
 intro E a w h
 refine⟨E,⟨by rw[vo];exact h.len,?_,h.hw.less (fun b k hb=>pN hb),h.df⟩,{Ext.refl (Own σ.hp E) E w with own:=?_ }⟩
 ·intro i x hx v hv
  rcases vn hx with e|e
  ·subst e;trivial
  ·exact h.tm i x e v hv
 ·rintro g ⟨b,k,hb,hg⟩
  exact Or.inl ⟨b,k,pN hb,hg⟩
theorem Wk.Fx{gl:Ctx}{σ:St}{s:Nat}{t:Ty}{x:AV}{y:t.den}(hx:σ.tm[s]? =some x)(hy:x.bK t=some y):Wk gl σ {σ with tm:=σ.tm.set s (.val t y)}:=by
 intro E a w h
 refine⟨E,⟨by simp[h.len],?_,h.hw,h.df⟩,Ext.refl _ _ _⟩
 intro i z hz v hv
 rw[dm] at hz
 split at hz
 ·rename_i e;subst e
  split at hz
  ·cases hz
   have hr:=h.tm s x hx v hv
   have hp:x.plain=true:=by cases x<;>first|rfl|(cases t<;>simp[AV.bK] at hy)
   exact RV.dK (cC.bK hy (RV.je hp hr))
  ·cases hz
 ·exact h.tm i z hz v hv
theorem Wk.Bb{gl:Ctx}{σ:St}{b:Nat}{t:Ty}{v:AV}{y:t.den}(hb:σ.hp[b]? =some (some (.var t v)))(hy:v.bK t=some y):Wk gl σ {σ with hp:=σ.hp.set b (some (.var t (.val t y)))}:=by
 intro E a w h
 have hk:=h.hw.cE b _ hb
 obtain⟨h1,h2,g,c,e,h3,h4,h5⟩:=hk
 have hw:=h.hw.write (w':=w) (k':=.var t (.val t y)) hb rfl (fun _ _=>rfl) ⟨h1,Ty.cU t,g,c,e,h3,h4,RC.bK hy h5⟩
 refine⟨E,⟨h.len,h.tm,hw,h.df⟩,{Ext.refl (Own σ.hp E) E w with own:=?_ }⟩
 grind [Own.set]
theorem Wk.S0{gl:Ctx}{σ:St}{b:Nat}{e:TypeId}{bs:Nat}{t:Ty}{xs:List t.den}{i:Nat}{v:AV}{y:t.den}(hb:σ.hp[b]? =some (some (.bU e bs t xs i v)))(hy:v.bK t=some y):Wk gl σ {σ with hp:=σ.hp.set b (some (.bU e bs t xs i (.val t y)))}:=by
 intro E a w h
 obtain⟨h1,h2,h3,h4,h5,h6,g,cap,c,q1,q2,q3,q4,q5,q6,q7,q8,q9⟩:=h.hw.cE b _ hb
 have hw:=h.hw.write (w':=w) (k':=.bU e bs t xs i (.val t y)) hb rfl (fun _ _=>rfl) ⟨h1,h2,h3,h4,h5,Ty.cU t,g,cap,c,q1,q2,q3,q4,q5,q6,q7,RC.bK hy q8,q9⟩
 refine⟨E,⟨h.len,h.tm,hw,h.df⟩,{Ext.refl (Own σ.hp E) E w with own:=?_ }⟩
 grind [Own.set]
theorem Wk.mcl{gl:Ctx}{σ:St}{b:Nat}{k v:Ty}{rest:List (k.den×v.den)}{c:Option (k.den×v.den)}(hb:σ.hp[b]? =some (some (.lB k v rest c))):Wk gl σ {σ with hp:=σ.hp.set b (some (.lB k v rest none))}:=by
 intro E a w h
 obtain⟨g,om,since,seen,c0,q1,q2,q3⟩:=h.hw.cE b _ hb
 have hw:=h.hw.write (w':=w) (k':=.lB k v rest none) hb rfl (fun _ _=>rfl) ⟨g,om,since,seen,c0,q1,q2,q3.imp (fun h=>⟨h.1,h.2.1,rfl⟩) (fun⟨bm,en,r1,r2,r3,r4,r5,r6,r7,_⟩=>⟨bm,en,r1,r2,r3,r4,r5,r6,r7,fun x hx=>by cases hx⟩)⟩
 refine⟨E,⟨h.len,h.tm,hw,h.df⟩,{Ext.refl (Own σ.hp E) E w with own:=?_ }⟩
 grind [Own.set]
def Bc(φ:AV→Option AV):List AV→List AV
 |[]=>[]
 |x::l=>(if x.plain then(match φ x with|some y=>y|none=>.bot) else .bot)::Bc φ l
def Yd:AV→AV→Bool
 | .mp _,.mp _=>true
 | .mp _,_=>false
 |_,_=>true
def uI(φ:AV→Option AV):List AV→Option (List AV)
 |[]=>some []
 |
  x::l=>match φ x,uI φ l with
  |some y,some m=>if Yd x y then some (y::m) else none
  |_,_=>none
def Iw{K:Type}(φ:AV→Option AV):List (K×AV)→Option (List (K×AV))
 |[]=>some []
 |
  (k,x)::l=>match φ x,Iw φ l with
  |some y,some m=>some ((k,y)::m)
  |_,_=>none
def i7(φ:AV→Option AV):Option aN→Option (Option aN)
 |
  some (.var t v)=>match φ v with
  |some u=>if u.cp t then some (some (.var t u)) else none
  |none=>none
 |
  some (.tv g t v)=>match φ v with
  |some u=>if u.cp t then some (some (.tv g t u)) else none
  |none=>none
 |
  some (.bU e bs t xs i v)=>match φ v with
  |some u=>if u.cp t then some (some (.bU e bs t xs i u)) else none
  |none=>none
 |
  some (.cS e bs t xs e2 (some (i,v)))=>match φ v with
  |some u=>if u.cp t then some (some (.cS e bs t xs e2 (some (i,u)))) else none
  |none=>none
 |
  some (.pmap k t es e2 (some (i,v,p)))=>match φ v with
  |some u=>if u.cp t then some (some (.pmap k t es e2 (some (i,u,p)))) else none
  |none=>none
 |some (.fP ..)=>none
 |some (.gW k l)=>(Iw φ l).map fun l=>some (.gW k l)
 |k=>some k
def Iy(φ:AV→Option AV):List (Option aN)→Option (List (Option aN))
 |[]=>some []
 |
  k::l=>match i7 φ k,Iy φ l with
  |some k',some m=>some (k'::m)
  |_,_=>none
theorem jt{φ:AV→Option AV}:∀{l:List AV},(Bc φ l).length=l.length
 |[]=>rfl
 |_::l=>by simp[Bc,jt (l:=l)]
theorem ju{φ:AV→Option AV}:∀{l:List AV}{i:Nat}{y:AV},(Bc φ l)[i]? =some y→y= .bot∨∃x,l[i]? =some x∧x.plain=true∧φ x=some y
 |[],i,y,h=>by trivial
 |
  x::l,0,y,h=>by
  simp only[Bc,List.getElem?_cons_zero,cX] at h
  grind
 |
  x::l,i+1,y,h=>by
  simp only[Bc,sH] at h
  simpa using ju h
theorem jv{φ:AV→Option AV}:∀{l m:List (Option aN)},Iy φ l=some m→∀{i:Nat}{k:aN},m[i]? =some (some k)→∃k0,l[i]? =some (some k0)∧i7 φ (some k0)=some (some k)
 |[],m,h,i,k,hk=>by cases h;grind
 |
  x::l,m,h,i,k,hk=>by
  simp only[Iy] at h
  split at h
  ·rename_i k' m' h1 h2
   cases h
   cases i with
   |
    zero=>
    simp at hk
    subst hk
    cases x with
    |none=>simp[i7] at h1
    |some x=>grind
   |succ i=>obtain⟨k0,e1,e2⟩:=jv h2 (i:=i) (by simpa using hk);exact⟨k0,by simpa using e1,e2⟩
  grind
def St.fT(φ:AV→Option AV)(σ:St):Option St:=
 match Iy φ σ.hp,uI φ σ.df with
 |some hp,some df=>some ⟨Bc φ σ.tm,hp,df⟩
 |_,_=>none
structure Good(E E':Env)(w:World)(φ:AV→Option AV):Prop where
 rc:∀x y vs,φ x=some y→RC E w x vs→RC E' w y vs
 agg:∀x y,φ x=some y→y.isAgg=x.isAgg
 fn:∀fn fs cs y,φ (.func fn fs cs)=some y→∃fs' cs',y= .func fn fs' cs'∧φ fs=some fs'∧φ cs=some cs'∧fs'.atoms=true∧cs'.atoms=true
 mp:∀b b',φ (.mp b)=some (.mp b')→E'.g b'=E.g b
theorem Good.RV{E E':Env}{w:World}{φ:AV→Option AV}(g:Good E E' w φ){x y:AV}{v:Value}(h:φ x=some y)(hr:cC E w x v):cC E' w y v:=by
 rcases hr with⟨h1,cs,e,h2⟩|⟨h1,h2⟩
 ·exact Or.inl ⟨by rw[g.agg x y h];exact h1,cs,e,g.rc x y _ h h2⟩
 ·exact Or.inr ⟨by rw[g.agg x y h];exact h1,g.rc x y _ h h2⟩
theorem Good.RD{E E':Env}{w:World}{φ:AV→Option AV}(g:Good E E' w φ):∀{l m:List AV}{ds:List Deferred},uI φ l=some m→Ax.RD E w l ds→Ax.RD E' w m ds
 |
  [],m,ds,h,hr=>by
  cases h
  cases ds with
  |nil=>trivial
  |cons _ _=>trivial
 |
  x::l,m,ds,h,hr=>by
  simp only[uI] at h
  split at h
  ·rename_i y m' h1 h2
   split at h
   case isFalse=>cases h
   rename_i fJ
   cases h
   cases ds with
   |nil=>cases x<;>exact hr.elim
   |
    cons d ds=>
    cases x with
    |
     func fn fs cs=>
     obtain⟨fs',cs',e,k1,k2,k3,k4⟩:=g.fn fn fs cs y h1
     subst e
     obtain⟨⟨f,c,e,r1,r2,r3,r4⟩,r5⟩:=hr
     exact⟨⟨f,c,e,g.rc _ _ _ k1 r1,g.rc _ _ _ k2 r2,k3,k4⟩,g.RD h2 r5⟩
    |
     mp b=>
     cases y<;>simp[Yd] at fJ
     rename_i b'
     have k1:=g.mp b b' h1
     obtain⟨⟨i,e1,e2⟩,r5⟩:=hr
     exact⟨⟨i,by grind,e2⟩,g.RD h2 r5⟩
    |_=>trivial
  grind
theorem Good.RF{E E':Env}{w:World}{φ:AV→Option AV}(g:Good E E' w φ)(hS:∀b,E.S b→E'.S b){kt:Ty}:∀{en:List MapEntry}{l l':List (kt.den×AV)},Iw φ l=some l'→Ax.RF E w kt en l→Ax.RF E' w kt en l'∧l'.map (·.1)=l.map (·.1)
 |[],[],l',h,hr=>by cases h;trivial
 |[],_::_,_,h,hr=>hr.elim
 |_::_,[],_,h,hr=>hr.elim
 |
  e::en,(k,x)::l,l',h,hr=>by
  simp only[Iw] at h
  split at h
  ·rename_i y m h1 h2
   cases h
   obtain⟨r1,r2,r3,r4⟩:=hr
   obtain⟨q1,q2⟩:=g.RF hS h2 r4
   exact⟨⟨cC.mono ⟨fun _ _=>rfl,hS⟩ (fun _ hb=>by cases hb) r1,g.rc _ _ _ h1 r2,by rw[g.agg _ _ h1];exact r3,q1⟩,by simp[q2]⟩
  grind
theorem Good.RB{E E':Env}{w:World}{φ:AV→Option AV}(g:Good E E' w φ)(hS:∀b,E.S b→E'.S b){b b':Nat}{k k':aN}(hg:E'.g b'=E.g b)(hsv:E'.sv b'=E.sv b)(hbt:E'.bt b'=E.bt b)(hP:k.ER=true→∀g,E.P b g→E'.P b' g)(hk:i7 φ (some k)=some (some k'))(h:Ax.RB E w b k):Ax.RB E' w b' k':=by
 have kp:bJ E w E' w:=⟨fun _ _=>rfl,hS⟩
 cases k with
 |
  var t v=>
  simp only[i7] at hk
  split at hk
  ·rename_i u hu
   split at hk
   ·rename_i hc
    cases hk
    obtain⟨h1,h2,i,c,e,h3,h4,h5⟩:=h
    exact⟨by grind,hc,i,c,e,by grind,h4,g.rc v u _ hu h5⟩
   grind
  grind
 |
  row e bs t xs=>
  simp only[i7,cX] at hk;subst hk
  obtain⟨h1,h2,h3,h4,a,cap,h5,h6,h7⟩:=h
  refine⟨by grind,h2,h3,h4,a,cap,by grind,h6,?_⟩
  rcases h7 with⟨h7,h8,h9⟩|⟨i,c,h7,h8,h9,h10,h11,h12⟩
  ·grind
  ·exact Or.inr ⟨i,c,by grind,h8,h9,h10,h11,aT.mono (fun _ _=>Rel.mono kp.w kp.S) h12⟩
 |
  map kt vt es=>
  simp only[i7,cX] at hk;subst hk
  obtain⟨h1,h1',i,en,clock,h2,h3,h4,h5,h6⟩:=h
  exact⟨h1,h1',i,en,clock,by grind,h3,RM.mono kp h4,h5,h6⟩
 |
  lB k v rest cur=>
  simp only[i7,cX] at hk;subst hk
  obtain⟨gg,om,since,seen,c0,q1,q2,q3⟩:=h
  refine⟨gg,om,since,seen,c0,by grind,q2,q3.imp id ?_⟩
  rintro⟨bm,en,r1,r2,r3,r4,r5,r6,r7,r8⟩
  refine⟨bm,en,r1,kp.S bm r2,r3,r4,r5,r6,RM.mono kp r7,fun x hx=>?_⟩
  obtain⟨e,s0,t1,t2,t3,t4⟩:=r8 x hx
  exact⟨e,s0,t1,t2,cC.mono kp (fun _ hb=>by cases hb) t3,cC.mono kp (fun _ hb=>by cases hb) t4⟩
 |
  cS e bs t xs e2' f=>
  cases f with
  |
   none=>
   simp only[i7,cX] at hk;subst hk
   obtain⟨h1,h2,h3,h4,h5,gg,cap,c,og,q1,q2,q3,q4,q5,q6,q7,q8⟩:=h
   refine⟨by grind,h2,h3,h4,h5,gg,cap,c,og,by grind,q2,by grind,q4,q5,q6,q7.mono (hP rfl),fun i x hx=>?_⟩
   obtain⟨u,r1,r2,r3⟩:=q8 i x hx
   exact⟨u,r1,fun v hv=>(by cases hv),fun hv=>cW.mono kp.w kp.S (fun _ _=>rfl) (r3 (fun v hv=>by cases hv))⟩
  |
   some f=>
   obtain⟨j,v⟩:=f
   simp only[i7] at hk
   split at hk
   ·rename_i u hu
    split at hk
    ·rename_i hc
     cases hk
     obtain⟨h1,h2,h3,h4,h5,gg,cap,c,og,q1,q2,q3,q4,q5,q6,q7,q8⟩:=h
     refine⟨by rw[hbt];exact h1,h2,h3,h4,fun i v' hv=>by grind,gg,cap,c,og,by grind,q2,by grind,q4,q5,q6,q7.mono (hP rfl),fun i x hx=>?_⟩
     obtain⟨u',r1,r2,r3⟩:=q8 i x hx
     refine⟨u',r1,fun v' hv=>?_,fun hv=>cW.mono kp.w kp.S (fun _ _=>rfl) (r3 (fun v' hv'=>by grind))⟩
     cases hv
     exact⟨(r2 v rfl).1,g.rc v u _ hu (r2 v rfl).2⟩
    grind
   grind
 |
  pmap kt t es e2' f=>
  cases f with
  |
   none=>
   simp only[i7,cX] at hk;subst hk
   obtain⟨h1,h2,h3,gg,en,clock,og,q1,q2,q3,q4,q5,q6,q7,q8⟩:=h
   refine⟨h1,h2,h3,gg,en,clock,og,by grind,q2,q3,q4,q5.mono (hP rfl),q6,fun i x hx=>?_,fun kx v=>⟨fun hf=>(by cases hf),fun hf=>(by cases hf)⟩⟩
   obtain⟨m,r1,r2,r3,r4⟩:=q7 i x hx
   exact⟨m,r1,cC.mono kp (fun _ hb=>by cases hb) r2,fun v pr hv=>(by cases hv),fun hv=>cW.mono kp.w kp.S (fun _ _=>rfl) (r4 (fun v pr hv=>by cases hv))⟩
  |
   some f=>
   obtain⟨j,v,p⟩:=f
   simp only[i7] at hk
   split at hk
   ·rename_i u hu
    split at hk
    ·rename_i hc
     cases hk
     obtain⟨h1,h2,h3,gg,en,clock,og,q1,q2,q3,q4,q5,q6,q7,q8⟩:=h
     refine⟨h1,h2,fun kx v' pr hv=>by grind,gg,en,clock,og,by grind,q2,q3,q4,q5.mono (hP rfl),q6,fun i x hx=>?_,fun kx v'=>⟨fun hf hn=>?_,fun hf=>?_⟩⟩
     ·obtain⟨m,r1,r2,r3,r4⟩:=q7 i x hx
      refine⟨m,r1,cC.mono kp (fun _ hb=>by cases hb) r2,fun v' pr hv=>?_,fun hv=>cW.mono kp.w kp.S (fun _ _=>rfl) (r4 (fun v' pr hv'=>by grind))⟩
      cases hv
      exact⟨(r3 v _ rfl).1,g.rc v u _ hu (r3 v _ rfl).2⟩
     ·cases hf
      exact g.rc v u _ hu ((q8 _ v).1 rfl hn)
     grind
    grind
   grind
 |fP k t es e2' kx v pr=>trivial
 |
  gW kt l=>
  simp only[i7,fm] at hk
  obtain⟨l',hl,e⟩:=hk
  cases e
  obtain⟨h1,h2,gg,en,clock,q1,q2,q3⟩:=h
  obtain⟨r1,r2⟩:=g.RF hS hl q3
  refine⟨by grind,?_,gg,en,clock,by grind,q2,r1⟩
  have:=congrArg List.length r2
  grind
 |lp l r=>simp only[i7,cX] at hk;subst hk;exact⟨by rw[hg];exact h.1,h.2⟩
 |sI=>simp only[i7,cX] at hk;subst hk;obtain⟨i,h1,h2⟩:=h;exact⟨i,by grind,h2⟩
 |
  tv gg t v=>
  simp only[i7] at hk
  split at hk
  ·rename_i u hu
   split at hk
   ·rename_i hc
    cases hk
    obtain⟨h0,h1,h2,c,e,h4,h5⟩:=h
    exact⟨by grind,by grind,hc,c,e,h4,g.rc v u _ hu h5⟩
   grind
  grind
 |
  bU e bs t xs i v=>
  simp only[i7] at hk
  split at hk
  ·rename_i u hu
   split at hk
   ·rename_i hc
    cases hk
    obtain⟨h1,h2,h3,h4,h5,h6,gg,cap,c,q1,q2,q3,q4,q5,q6,q7,q8,q9⟩:=h
    exact⟨by grind,h2,h3,h4,h5,hc,gg,cap,c,by grind,q2,by grind,q4,q5,q6,aT.mono (fun _ _=>Rel.mono kp.w kp.S) q7,g.rc v u _ hu q8,aT.mono (fun _ _=>Rel.mono kp.w kp.S) q9⟩
   grind
  grind
def fz(hb:Nat→Option aN)(b:Nat)(t:Ty):AV→Option AV
 | .own c=>if Nat.beq c b then(view hb (.own c) false t).map (·.1) else some (.own c)
 | .jD c lo len=>if Nat.beq c b then(view hb (.jD c lo len) false t).map (·.1) else some (.jD c lo len)
 | .iW c p lo len=>if Nat.beq c b then(view hb (.iW c p lo len) false t).map (·.1) else some (.iW c p lo len)
 | .ptr c p=>if Nat.beq c b then(view hb (.ptr c p) false t).map (·.1) else some (.ptr c p)
 | .mp c=>if Nat.beq c b then(view hb (.mp c) false t).map (·.1) else some (.mp c)
 |
  .func fn fs cs=>match fz hb b t fs,fz hb b t cs with
  |some f,some c=>if f.atoms&&c.atoms then some (.func fn f c) else none
  |_,_=>none
 |
  .iface u v=>match fz hb b t v with
  |some x=>some (.iface u x)
  |none=>none
 |
  .cons x y=>match fz hb b t x,fz hb b t y with
  |some u,some v=>some (.cons u v)
  |_,_=>none
 | .bot=>none
 | .gk _=>none
 | .opt _ _=>none
 |x=>some x
theorem kS{hb:Nat→Option aN}{x y:AV}{t:Ty}{l:List Nat}{b:Nat}(hx:x= .own b∨(∃lo len,x= .jD b lo len)∨(∃p lo len,x= .iW b p lo len)∨(∃p,x= .ptr b p))(h:view hb x false t=some (y,l)):l= [b]:=by
 rcases hx with rfl|⟨lo,len,rfl⟩|⟨p,lo,len,rfl⟩|⟨p,rfl⟩
 ·have h':(match fj hb b with|some ⟨bs,t,xs⟩=>some (AV.val (.slice bs t) xs,[b])|none=>none)=some (y,l):=by trivial
  grind
 ·have h':(match fj hb b with|some ⟨bs,t,xs⟩=>some (AV.val (.slice bs t) ((xs.drop lo).take len),[b])|none=>none)=some (y,l):=by trivial
  grind
 ·cases t with
  |
   slice bs t=>
   grind [view]
  |_=>trivial
 ·have h':(match hb b with
   |
    some k=>match nf k p,(iP k).sub p with
    |
     some u,some s=>match u.bK s with
     |some y=>some (AV.bL s y,[b])
     |none=>none
    |_,_=>none
   |none=>none)=some (y,l):=by trivial
  grind
theorem Iz{gl:Ctx}{E:Env}{w:World}{hp:List (Option aN)}(hw:HW gl E w hp){hb:Nat→Option aN}(hB:HB hb hp)(b:Nat)(t:Ty):Good E (E.cN [b]) w (fz hb b t) where
 mp:=by
  intro c y h
  simp only[fz] at h
  split at h
  ·obtain⟨⟨z,l⟩,h1,h2⟩:=Option.map_eq_some_iff.1 h
   have:=qx h1
   grind [AV.ids]
  ·cases h;rfl
 rc:=
  by
  have kp:bJ E w (E.cN [b]) w:=Env.dA [b]
  intro x
  induction x with
  |
   own c=>
   intro y vs h hr
   simp only[fz] at h
   split at h
   ·rename_i e;have e:=bR e;subst e
    obtain⟨⟨z,l⟩,h1,rfl⟩:=Option.map_eq_some_iff.1 h
    have:=kS (Or.inl rfl) h1;grind [kO]
   ·cases h;trivial
  |
   jD c lo len=>
   intro y vs h hr
   simp only[fz] at h
   split at h
   ·rename_i e;have e:=bR e;subst e
    obtain⟨⟨z,l⟩,h1,rfl⟩:=Option.map_eq_some_iff.1 h
    have:=kS (Or.inr (Or.inl ⟨lo,len,rfl⟩)) h1;grind [kO]
   ·cases h;trivial
  |
   iW c p lo len=>
   intro y vs h hr
   simp only[fz] at h
   split at h
   ·rename_i e;have e:=bR e;subst e
    obtain⟨⟨z,l⟩,h1,rfl⟩:=Option.map_eq_some_iff.1 h
    have:=kS (Or.inr (Or.inr (Or.inl ⟨p,lo,len,rfl⟩))) h1;grind [kO]
   ·cases h;trivial
  |
   ptr c p=>
   intro y vs h hr
   simp only[fz] at h
   split at h
   ·rename_i e;have e:=bR e;subst e
    obtain⟨⟨z,l⟩,h1,rfl⟩:=Option.map_eq_some_iff.1 h
    have:=kS (Or.inr (Or.inr (Or.inr ⟨p,rfl⟩))) h1;grind [kO]
   ·cases h;trivial
  |
   mp c=>
   intro y vs h hr
   simp only[fz] at h
   split at h
   ·rename_i e;have e:=bR e;subst e
    obtain⟨⟨z,l⟩,h1,rfl⟩:=Option.map_eq_some_iff.1 h
    have:l= [c]:=by
     have h':(match hb c with
      |some (.map k v es)=>some (AV.val (.map k v) (some es),[c])
      |_=>none)=some (z,l):=by trivial
     grind
    grind [kO]
   ·cases h;trivial
  |
   func fn fs cs ih1 ih2=>
   intro y vs h hr
   simp only[fz] at h
   split at h
   ·rename_i f c h1 h2
    split at h
    ·rename_i ha
     cases h
     simp only[aV] at ha
     obtain⟨f',c',e,r1,r2,_,_⟩:=hr
     exact⟨f',c',e,ih1 f _ h1 r1,ih2 c _ h2 r2,ha.1,ha.2⟩
    grind
   grind
  |
   iface u v ih=>
   intro y vs h hr
   simp only[fz] at h
   split at h
   ·rename_i z hz
    cases h
    obtain⟨x,e,hr⟩:=hr
    refine⟨x,e,?_⟩
    have acO:=fzAgg v z hz
    grind
   grind
  |
   cons a c ih1 ih2=>
   intro y vs h hr
   simp only[fz] at h
   split at h
   ·rename_i u v h1 h2
    cases h
    obtain⟨v1,v2,e,r1,r2⟩:=hr
    exact⟨v1,v2,e,ih1 u _ h1 r1,ih2 v _ h2 r2⟩
   grind
  |bot=>intro y vs h;trivial
  |gk l=>intro y vs h;trivial
  |opt c v=>intro y vs h;trivial
  |_=>intro y vs h hr;simp only[fz,cX] at h;subst h;exact RC.mono kp (fun _ _=>⟨rfl,rfl,rfl⟩) hr
 agg:=fun x y h=>fzAgg x y h
 fn:=by
  intro fn fs cs y h
  simp only[fz] at h
  grind
where
 fzAgg {hb:Nat→Option aN} {b:Nat} {t:Ty} (x y:AV) (h:fz hb b t x=some y):y.isAgg=x.isAgg:=by
  cases x with
  |
   own c=>
   simp only[fz] at h
   split at h
   ·simp only[fm] at h;obtain⟨⟨z,l⟩,h1,rfl⟩:=h;exact ik h1
   grind
  |
   jD c lo len=>
   simp only[fz] at h
   split at h
   ·simp only[fm] at h;obtain⟨⟨z,l⟩,h1,rfl⟩:=h;exact ik h1
   grind
  |
   iW c p lo len=>
   simp only[fz] at h
   split at h
   ·simp only[fm] at h;obtain⟨⟨z,l⟩,h1,rfl⟩:=h;exact ik h1
   grind
  |
   ptr c p=>
   simp only[fz] at h
   split at h
   ·simp only[fm] at h;obtain⟨⟨z,l⟩,h1,rfl⟩:=h;exact ik h1
   grind
  |
   mp c=>
   simp only[fz] at h
   split at h
   ·simp only[fm] at h;obtain⟨⟨z,l⟩,h1,rfl⟩:=h;exact ik h1
   grind
  |
   func fn fs cs=>
   simp only[fz] at h
   split at h
   ·split at h
    ·cases h;rfl
    grind
   grind
  |
   iface u v=>
   simp only[fz] at h
   split at h
   ·cases h;rfl
   grind
  |
   cons a c=>
   simp only[fz] at h
   split at h
   ·cases h;rfl
   grind
  |bot=>trivial
  |gk l=>trivial
  |opt c v=>trivial
  |_=>grind [fz]
def ep(hp:List (Option aN))(b:Nat):Option aN:=(hp[b]?).join
theorem cn(hp:List (Option aN)):HB (ep hp) hp:=by
 intro b k hk
 grind [ep]
def freeze(b:Nat)(t:Ty)(σ:St):Option St:=
 match ep σ.hp b with
 |some _=>St.fT (fz (ep σ.hp) b t) {σ with hp:=σ.hp.set b none}
 |none=>none
theorem Wk.freeze{gl:Ctx}{b:Nat}{t:Ty}{σ σ':St}(h:Ax.freeze b t σ=some σ'):Wk gl σ σ':=by
 intro E a w hg
 unfold Ax.freeze at h
 split at h
 ·rename_i k hk
  have hbk:=cn σ.hp b k hk
  unfold St.fT at h
  split at h
  ·rename_i hp' df' h1 h2
   cases h
   have adf:=Iz hg.hw (cn σ.hp) b t
   have hSle:∀i,E.S i→(E.cN [b]).S i:=fun i hi=>Or.inl hi
   have src:∀(i:Nat)(k':aN),hp'[i]? =some (some k')→∃k0,i≠b∧σ.hp[i]? =some (some k0)∧i7 (fz (ep σ.hp) b t) (some k0)=some (some k'):=by
    grind [jv]
   refine⟨E.cN [b],⟨?_,?_,⟨?_,?_,?_,?_,hg.hw.fI (Env.dA [b]),fun i k' g' hi hp=>by obtain⟨k0,_,e1,_⟩:=src i k' hi;exact hg.hw.qE i k0 g' e1 hp⟩,adf.RD h2 hg.df⟩,⟨rfl,Tp.r rfl rfl,rfl,cL _,fun _ _ _=>rfl,hSle,?_,?_,fun _ _=>⟨rfl,rfl,rfl⟩⟩⟩
   ·simp only[jt];exact hg.len
   ·intro i y hy v hv
    rcases ju hy with e|⟨x,e1,e2,e3⟩
    ·subst e;trivial
    ·exact RV.dK (adf.RV e3 (RV.je e2 (hg.tm i x e1 v hv)))
   ·intro i k' hi
    obtain⟨k0,_,e1,e2⟩:=src i k' hi
    exact adf.RB hSle (b:=i) (b':=i) rfl rfl rfl (fun _ _ h=>h) e2 (hg.hw.cE i k0 e1)
   ·intro i j k1 k2 g' hi hj g1 g2
    obtain⟨k3,_,e1,_⟩:=src i k1 hi
    obtain⟨k4,_,e2,_⟩:=src j k2 hj
    exact hg.hw.dG i j k3 k4 g' e1 e2 g1 g2
   ·intro i k' g' hi hgi hs
    obtain⟨k0,hne,e1,_⟩:=src i k' hi
    rcases hs with hs|⟨c,hc,e⟩
    ·exact hg.hw.dh i k0 g' e1 hgi hs
    ·simp at hc;subst hc
     exact hne (hg.hw.dG i c k0 k g' e1 hbk hgi (Or.inl e))
   ·intro g' hs
    rcases hs with hs|⟨c,hc,e⟩
    ·exact hg.hw.slt g' hs
    ·simp at hc;subst hc
     exact Own.below hg.hw ⟨c,k,hbk,Or.inl e⟩
   ·intro g' hs
    rcases hs with hs|⟨c,hc,e⟩
    ·grind
    ·simp at hc;subst hc
     exact Or.inr (Or.inl ⟨c,k,hbk,Or.inl e⟩)
   ·rintro g' ⟨i,k',hi,hgi⟩
    obtain⟨k0,_,e1,_⟩:=src i k' hi
    exact Or.inl ⟨i,k0,e1,hgi⟩
  grind
 grind
end Go.Ax
namespace Go.Ax
def nk(b:Nat):AV→Bool
 | .jD c _ _| .iW c _ _ _| .ptr c _=> !Nat.beq c b
 | .func _ fs cs=>nk b fs&&nk b cs&&fs.atoms&&cs.atoms
 | .iface _ v=>nk b v
 | .cons a c=>nk b a&&nk b c
 | .bot| .gk _| .opt _ _=>false
 |_=>true
def gY(b:Nat)(x:AV):Option AV:=if nk b x then some x else none
def Env.re(E:Env)(b:Nat)(t:Ty):Env:={E with bt:=fun c=>if c=b then t else E.bt c}
theorem Env.zl{E:Env}{b c:Nat}{t:Ty}(h:c≠b):(E.re b t).bt c=E.bt c:=by simp[Env.re,h]
theorem Env.C7{E:Env}{b:Nat}{t:Ty}:(E.re b t).bt b=t:=by simp[Env.re]
theorem Fz{E:Env}{w:World}{b:Nat}{t:Ty}:∀{x:AV}{vs:List Value},nk b x=true→RC E w x vs→RC (E.re b t) w x vs:=by
 intro x
 have ne:∀{c:Nat},(!Nat.beq c b)=true→c≠b:=fun h e=>by simp_all
 induction x with
 |jD c lo len=>intro vs h hr;simp only[RC];rw[Env.zl (ne h)];exact hr
 |iW c p lo len=>intro vs h hr;simp only[RC];rw[Env.zl (ne h)];exact hr
 |ptr c p=>intro vs h hr;simp only[RC];rw[Env.zl (ne h)];exact hr
 |
  func fn fs cs ih1 ih2=>
  intro vs h hr
  simp only[nk,aV] at h
  obtain⟨f,c,e,h1,h2,h3,h4⟩:=hr
  exact⟨f,c,e,ih1 h.1.1.1 h1,ih2 h.1.1.2 h2,h3,h4⟩
 |
  iface u v ih=>
  intro vs h hr
  obtain⟨x,e,hr⟩:=hr
  refine⟨x,e,?_⟩
  rcases hr with⟨h1,cs,e2,h3⟩|⟨h1,h3⟩
  ·exact Or.inl ⟨h1,cs,e2,ih h h3⟩
  ·exact Or.inr ⟨h1,ih h h3⟩
 |
  cons a c ih1 ih2=>
  intro vs h hr
  simp only[nk,aV] at h
  obtain⟨v1,v2,e,h1,h2⟩:=hr
  exact⟨v1,v2,e,ih1 h.1 h1,ih2 h.2 h2⟩
 |bot=>intro vs h;trivial
 |gk l=>intro vs h;trivial
 |opt c v=>intro vs h;trivial
 |_=>intro vs h hr;exact hr
theorem xf{E:Env}{w:World}{b:Nat}{t:Ty}:Good E (E.re b t) w (gY b) where
 rc:=by
  grind [gY,Fz]
 agg:=by
  grind [gY]
 mp:=by
  intro c y h
  unfold gY at h
  split at h
  ·cases h;rfl
  grind
 fn:=by
  intro fn fs cs y h
  unfold gY at h
  split at h
  ·rename_i hn
   cases h
   simp only[nk,aV] at hn
   exact⟨fs,cs,rfl,by unfold gY;grind,by unfold gY;grind,hn.1.2,hn.2⟩
  grind
theorem bW.re{gl:Ctx}{σ:St}{E:Env}{a:Act}{w:World}(hg:bW gl σ E a w){b:Nat}{k k':aN}{ty:Ty}{σ1:St}(hb:σ.hp[b]? =some (some k))(h16:16≤b)(hm:St.fT (gY b) {σ with hp:=σ.hp.set b none}=some σ1)(hk:RB (E.re b ty) w b k'):
 bW gl {σ1 with hp:=σ1.hp.set b (some k')} (E.re b ty) a w∧Ext gl.md (Own σ.hp E) E w (Own (σ1.hp.set b (some k')) (E.re b ty)) (E.re b ty) w:=by
 have adf:=xf (E:=E) (w:=w) (b:=b) (t:=ty)
 unfold St.fT at hm
 split at hm
 ·rename_i hp' df' h3 h4
  cases hm
  have src:∀(i:Nat)(k2:aN),(hp'.set b (some k'))[i]? =some (some k2)→(i=b∧k'=k2)∨(i≠b∧∃k0,σ.hp[i]? =some (some k0)∧i7 (gY b) (some k0)=some (some k2)):=by
   intro i k2 hi
   rw[dm] at hi
   split at hi
   ·grind
   ·rename_i hne
    obtain⟨k0,e1,e2⟩:=jv h3 hi
    grind
  have any:∀(i:Nat)(k2:aN),(hp'.set b (some k'))[i]? =some (some k2)→∃k0,σ.hp[i]? =some (some k0):=by
   grind
  refine⟨⟨?_,?_,⟨?_,?_,?_,hg.hw.slt,hg.hw.gl,?_⟩,adf.RD h4 hg.df⟩,⟨rfl,Tp.r rfl rfl,rfl,cL _,fun _ _ _=>rfl,fun _ h=>h,fun _ h=>Or.inl h,?_,fun i hi=>⟨rfl,rfl,Env.zl (by omega)⟩⟩⟩
  ·simp only[jt];exact hg.len
  ·intro i y hy v hv
   rcases ju hy with e|⟨x,e1,e2,e3⟩
   ·subst e;trivial
   ·exact RV.dK (adf.RV e3 (RV.je e2 (hg.tm i x e1 v hv)))
  ·intro i k2 hi
   rcases src i k2 hi with⟨e,e'⟩|⟨e1,k0,e3,e4⟩
   ·grind
   ·exact adf.RB (fun _ h=>h) (b:=i) (b':=i) rfl rfl (Env.zl e1) (fun _ _ h=>h) e4 (hg.hw.cE i k0 e3)
  ·intro i j k2 k3 g hi hj g1 g2
   obtain⟨k4,e1⟩:=any i k2 hi
   obtain⟨k5,e2⟩:=any j k3 hj
   exact hg.hw.dG i j k4 k5 g e1 e2 g1 g2
  ·intro i k2 g hi hgi hs
   obtain⟨k4,e1⟩:=any i k2 hi
   exact hg.hw.dh i k4 g e1 hgi hs
  ·intro i k2 g hi hgi
   obtain⟨k4,e1⟩:=any i k2 hi
   exact hg.hw.qE i k4 g e1 hgi
  ·rintro g ⟨i,k2,hi,hgi⟩
   obtain⟨k4,e1⟩:=any i k2 hi
   exact Or.inl ⟨i,k4,e1,hgi⟩
 grind
def oH(b:Nat):Bool:=Nat.ble 16 b
def ky(b:Nat)(σ:St):Option St:=
 match ep σ.hp b with
 |
  some (.bU e bs t xs i v)=>match v.bK t with
  |
   some y=>if oH b then(match St.fT (gY b) {σ with hp:=σ.hp.set b none} with
   |some σ1=>some {σ1 with hp:=σ1.hp.set b (some (.row e bs t (xs.set i y)))}
   |none=>none) else none
  |none=>none
 |_=>none
theorem aT.join{α:Type}{r:List Value→α→Prop}:∀{xs ys:List α}{vs us:List Value},aT r vs xs→aT r us ys→aT r (vs++us) (xs++ys)
 |[],ys,vs,us,h,k=>by simp[aT] at h;grind
 |
  x::xs,ys,vs,us,⟨v1,v2,e,h1,h2⟩,k=>by
  subst e
  exact⟨v1,v2++us,by simp,h1,aT.join h2 k⟩
theorem Eb{α:Type}{xs:List α}{i:Nat}{y:α}(h:i<xs.length):xs.set i y=xs.take i++y::xs.drop (i+1):=by
 rw[List.set_eq_take_append_cons_drop,aA h]
theorem Wk.ky{gl:Ctx}{b:Nat}{σ σ':St}(h:Ax.ky b σ=some σ'):Wk gl σ σ':=by
 intro E a w hg
 unfold Ax.ky at h
 split at h
 ·rename_i e bs t xs i v hb
  have hb:=cn σ.hp b _ hb
  split at h
  ·rename_i y hy
   split at h
   ·rename_i h16
    split at h
    ·rename_i σ1 hm
     cases h
     obtain⟨h1,h2,h3,h4,h5,h6,g,cap,c,q1,q2,q3,q4,q5,q6,q7,q8,q9⟩:=hg.hw.cE b _ hb
     obtain⟨r1,r2⟩:=hg.re (k':=.row e bs t (xs.set i y)) (ty:=.arr xs.length t) hb (fc h16) hm (by
      refine⟨by rw[Env.C7,bQ],by grind,by grind,h5,some ⟨g,0,none⟩,cap,by rw[bQ];exact q1,q2,Or.inr ⟨g,c,q3,rfl,q4,q5,by grind,?_⟩⟩
      rw[bQ,Eb h2]
      have hmid:Rel w E.S t ((c.toList.drop (i*t.size)).take t.size) y:=RC.bK hy q8
      have hsp:c.toList.take (xs.length*t.size)=c.toList.take (i*t.size)++((c.toList.drop (i*t.size)).take t.size++(c.toList.drop ((i+1)*t.size)).take ((xs.length -(i+1))*t.size)):=by
       have e1:xs.length*t.size=i*t.size+(t.size+(xs.length -(i+1))*t.size):=by
        rw[←Nat.add_assoc,show i*t.size+t.size=(i+1)*t.size from by grind,←fp]
        grind
       simp_all[List.take_add,fp]
      rw[hsp]
      exact aT.join q7 ⟨_,_,rfl,hmid,q9⟩)
     grind
    grind
   grind
  grind
 grind
def vp(b i:Nat)(σ:St):Option St:=
 match ep σ.hp b with
 |some (.row e bs t xs)=>if oH b then(match St.fT (gY b) {σ with hp:=σ.hp.set b none} with
  |some σ1=>some {σ1 with hp:=σ1.hp.set b (some (.bU e bs t xs i (.val t (xs.getD i t.aD))))}
  |none=>none) else none
 |_=>none
theorem aT.split{w:World}{S:Nat→Prop}{t:Ty}{xs:List t.den}{cs:List Value}{i:Nat}(h:aT (Rel w S t) cs xs)(hi:i<xs.length):
 aT (Rel w S t) (cs.take (i*t.size)) (xs.take i)∧Rel w S t ((cs.drop (i*t.size)).take t.size) (xs.getD i t.aD)∧aT (Rel w S t) (cs.drop ((i+1)*t.size)) (xs.drop (i+1)):=
 ⟨aT.take (fun _ _=>Rel.len) i h,by grind [aT.get,Rel.len],aT.drop (fun _ _=>Rel.len) (i+1) h⟩
theorem zm{gl:Ctx}{b i:Nat}{σ σ':St}(h:vp b i σ=some σ'){E:Env}{a:Act}{w:World}(hg:bW gl σ E a w)(hi:∀e bs t xs,ep σ.hp b=some (.row e bs t xs)→i<xs.length):
 ∃n t,E.bt b= .arr n t∧bW gl σ' (E.re b (lQ i n t)) a w∧Ext gl.md (Own σ.hp E) E w (Own σ'.hp (E.re b (lQ i n t))) (E.re b (lQ i n t)) w:=by
 unfold vp at h
 split at h
 ·rename_i e bs t xs hb0
  have hb:=cn σ.hp b _ hb0
  have hi:=hi _ _ _ _ hb0
  split at h
  ·rename_i h16
   split at h
   ·rename_i σ1 hm
    cases h
    obtain⟨h1,h2,h3,h4,ad,cap,h5,h6,h7⟩:=hg.hw.cE b _ hb
    rcases h7 with⟨_,_,h9⟩|⟨g,c,h7,h8,h9,h10,h11,h12⟩
    ·grind
    ·subst h8
     refine⟨xs.length,t,h1,?_⟩
     refine hg.re hb (fc h16) hm ⟨Env.C7,hi,h2,h3,h4,Ty.cU t,g,cap,c,h5,h6,h7,h9,h10,h11,?_,?_,?_⟩
     ·obtain⟨q1,_,_⟩:=aT.split h12 hi
      rw[List.take_take,qD (fM _ (by omega))] at q1
      exact q1
     ·obtain⟨_,q2,_⟩:=aT.split h12 hi
      rw[ll,List.take_take,qD (by rw[←Nat.sub_mul];exact Nat.le_mul_of_pos_left _ (by omega))] at q2
      exact q2
     ·obtain⟨_,_,q3⟩:=aT.split h12 hi
      rw[ll,←Nat.sub_mul] at q3
      exact q3
   grind
  grind
 grind
theorem Wk.S1{gl:Ctx}{b i:Nat}{σ σ':St}(h:vp b i σ=some σ')(hi:∀e bs t xs,ep σ.hp b=some (.row e bs t xs)→i<xs.length):Wk gl σ σ':=by
 intro E a w hg
 grind [zm]
theorem Wk.S2{gl:Ctx}{b i s:Nat}{σ σ':St}(hs:σ.tm[s]? =some (.ptr b [.idx i]))(h:vp b i σ=some σ'):Wk gl σ {σ' with tm:=σ'.tm.set s (.ptr b [.cw 1])}:=by
 intro E a w hg
 have hlt:s<a.tmps.size:=by rw[hg.len];grind
 obtain⟨g,hgb,e,hv⟩:=RV.atom rfl (hg.tm s _ hs a.tmps[s] (by grind))
 obtain⟨n,t,hbt,h1,h2⟩:=zm h hg (fun e bs t xs hb=>by
  have hk:=hg.hw.cE b _ (cn σ.hp b _ hb)
  have:=hk.1
  rw[this] at hv
  exact hv.1)
 refine⟨_,⟨by simp only[bQ];exact h1.len,?_,h1.hw,h1.df⟩,h2⟩
 intro j x hx v hv'
 simp only[dm] at hx
 split at hx
 ·rename_i e';subst e'
  split at hx
  ·cases hx
   rw[Array.getElem?_eq_getElem hlt] at hv'
   cases hv'
   simp at e
   refine RV.dK (Or.inr ⟨rfl,g,hgb,?_,?_⟩)
   ·grind [Env.C7,lQ,Ty.off,Ty.size]
   ·rw[Env.C7];exact Ty.gz t
  grind
 ·exact h1.tm j x hx v hv'
end Go.Ax
namespace Go.Ax
def Ol(d:Nat)(x:AV):Bool:=x.ids.all fun c=> !Nat.beq c d
def lu(b d:Nat)(x:AV):Option AV:=if nk b x&&Ol d x then some x else none
theorem FA{d:Nat}{x:AV}(h:Ol d x=true):∀c∈x.ids,c≠d:=fun c hc e=>by
 simp only[Ol,oj] at h
 have:=h c hc
 simp_all
def Env.pull(E:Env)(b d:Nat)(og:Option Nat)(v:Value)(td tb:Ty):Env where
 g:=fun c=>if c=d then og else E.g c
 sv:=fun c=>if c=d then v else E.sv c
 bt:=fun c=>if c=d then td else if c=b then tb else E.bt c
 S:=E.S
 P:=fun c x=>c≠d∧E.P c x∧(c=b→og≠some x)
theorem Env.C8{E:Env}{b d:Nat}{og:Option Nat}{v:Value}{td tb:Ty}{c:Nat}(h1:c≠d)(h2:c≠b):(E.pull b d og v td tb).g c=E.g c∧(E.pull b d og v td tb).sv c=E.sv c∧(E.pull b d og v td tb).bt c=E.bt c:=by simp[Env.pull,h1,h2]
theorem Env.l5{E:Env}{b d:Nat}{og:Option Nat}{v:Value}{td tb:Ty}{c x:Nat}(h:c≠d)(k:(E.pull b d og v td tb).has c x):E.has c x:=by
 rcases k with k|k
 ·exact Or.inl (by simpa[Env.pull,h] using k)
 ·exact Or.inr k.2.1
theorem Env.oI{E:Env}{b d:Nat}{og:Option Nat}{v:Value}{td tb:Ty}{x:Nat}(k:(E.pull b d og v td tb).has d x):og=some x:=by
 rcases k with k|k
 ·simpa[Env.pull] using k
 ·exact absurd rfl k.1
theorem IA{E:Env}{w:World}{b d:Nat}{og:Option Nat}{v:Value}{td tb:Ty}{x:AV}{vs:List Value}(h1:nk b x=true)(h2:Ol d x=true)(hr:RC E w x vs):RC (E.pull b d og v td tb) w x vs:=by
 have:=Fz (t:=tb) h1 hr
 refine RC.mono (E:=E.re b tb) (E':=E.pull b d og v td tb) (w:=w) ⟨fun _ _=>rfl,fun _ h=>h⟩ (fun c hc=>?_) this
 grind [FA,Env.pull,Env.re]
theorem FB{E:Env}{w:World}{b d:Nat}{og:Option Nat}{v:Value}{td tb:Ty}:Good E (E.pull b d og v td tb) w (lu b d) where
 rc:=by
  intro x y vs h hr
  unfold lu at h
  split at h
  ·simp_all[IA]
  grind
 agg:=by
  grind [lu]
 mp:=by
  intro c y h
  unfold lu at h
  split at h
  ·rename_i hn
   cases h
   simp only[aV] at hn
   have:=FA hn.2 c (by simp[AV.ids])
   simp[Env.pull,this]
  grind
 fn:=by
  intro fn fs cs y h
  unfold lu at h
  split at h
  ·rename_i hn
   cases h
   simp only[aV,nk] at hn
   have h2:=hn.2
   simp only[Ol,AV.ids,List.all_append,aV] at h2
   exact⟨fs,cs,rfl,by unfold lu;rw[aA];simp only[aV];exact⟨hn.1.1.1.1,h2.1⟩,by unfold lu;rw[aA];simp only[aV];exact⟨hn.1.1.1.2,h2.2⟩,hn.1.1.2,hn.1.2⟩
  grind
theorem bW.pull{gl:Ctx}{σ:St}{E:Env}{a:Act}{w:World}(hg:bW gl σ E a w){b d:Nat}{k k1 k2:aN}{og:Option Nat}{v:Value}{td tb:Ty}{σ1:St}(hb:σ.hp[b]? =some (some k))(h16:16≤b)(hbd:b≠d)(hd:σ.fresh d)
 (hP:∀x,og=some x→E.P b x∧E.g b≠some x) (hm:St.fT (lu b d) {σ with hp:=σ.hp.set b none}=some σ1) (hk1:RB (E.pull b d og v td tb) w b k1) (hk2:RB (E.pull b d og v td tb) w d k2):
 bW gl {σ1 with hp:=(σ1.hp.set b (some k1)).set d (some k2)} (E.pull b d og v td tb) a w∧Ext gl.md (Own σ.hp E) E w (Own ((σ1.hp.set b (some k1)).set d (some k2)) (E.pull b d og v td tb)) (E.pull b d og v td tb) w:=by
 have adf:=FB (E:=E) (w:=w) (b:=b) (d:=d) (og:=og) (v:=v) (td:=td) (tb:=tb)
 have h16d:=hd.2.2
 unfold St.fT at hm
 split at hm
 ·rename_i hp' df' h3 h4
  cases hm
  have src:∀(i:Nat)(k3:aN),((hp'.set b (some k1)).set d (some k2))[i]? =some (some k3)→(i=d∧k2=k3)∨(i≠d∧i=b∧k1=k3)∨(i≠d∧i≠b∧∃k0,σ.hp[i]? =some (some k0)∧i7 (lu b d) (some k0)=some (some k3)):=by
   intro i k3 hi
   rw[dm] at hi
   split at hi
   ·grind
   ·rename_i hne0
    have hne0:i≠d:=fun e=>hne0 e.symm
    rw[dm] at hi
    split at hi
    ·grind
    ·rename_i hne
     obtain⟨k0,e1,e2⟩:=jv h3 hi
     grind
  have any:∀(i:Nat)(k3:aN),((hp'.set b (some k1)).set d (some k2))[i]? =some (some k3)→i≠d→∃k0,σ.hp[i]? =some (some k0):=by
   grind
  have old:∀x i,i≠d→(E.pull b d og v td tb).has i x→og=some x→∀k0,σ.hp[i]? =some (some k0)→False:=by
   intro x i hi hh ho k0 hk0
   obtain⟨p1,p2⟩:=hP x ho
   have e:=hg.hw.dG b i k k0 x hb hk0 (Or.inr p1) (Env.l5 hi hh)
   subst e
   rcases hh with hh|hh
   ·grind [Env.pull]
   ·exact hh.2.2 rfl ho
  refine⟨⟨?_,?_,⟨?_,?_,?_,hg.hw.slt,hg.hw.gl,?_⟩,adf.RD h4 hg.df⟩,⟨rfl,Tp.r rfl rfl,rfl,cL _,fun _ _ _=>rfl,fun _ h=>h,fun _ h=>Or.inl h,?_,fun i hi=>Env.C8 (by omega) (by omega)⟩⟩
  ·simp only[jt];exact hg.len
  ·intro i y hy u hu
   rcases ju hy with e|⟨x,e1,e2,e3⟩
   ·subst e;trivial
   ·exact RV.dK (adf.RV e3 (RV.je e2 (hg.tm i x e1 u hu)))
  ·intro i k3 hi
   rcases src i k3 hi with⟨e,e'⟩|⟨_,e,e'⟩|⟨e0,e1,k0,e3,e4⟩
   ·grind
   ·grind
   ·obtain⟨z1,z2,z3⟩:=Env.C8 (E:=E) (og:=og) (v:=v) (td:=td) (tb:=tb) e0 e1
    exact adf.RB (fun _ h=>h) (b:=i) (b':=i) z1 z2 z3 (fun _ x hx=>⟨e0,hx,fun e=>absurd e e1⟩) e4 (hg.hw.cE i k0 e3)
  ·intro i j k3 k4 x hi hj g1 g2
   by_cases e:i=d<;>by_cases e':j=d
   ·grind
   ·grind [Env.oI]
   ·grind [Env.oI]
   ·obtain⟨k5,f1⟩:=any i k3 hi e
    obtain⟨k6,f2⟩:=any j k4 hj e'
    exact hg.hw.dG i j k5 k6 x f1 f2 (Env.l5 e g1) (Env.l5 e' g2)
  ·intro i k3 x hi hx hs
   by_cases e:i=d
   ·subst e
    exact hg.hw.dh b k x hb (Or.inr (hP x (Env.oI hx)).1) hs
   ·obtain⟨k5,f1⟩:=any i k3 hi e
    exact hg.hw.dh i k5 x f1 (Env.l5 e hx) hs
  ·intro i k3 x hi hx
   obtain⟨k5,f1⟩:=any i k3 hi hx.1
   exact hg.hw.qE i k5 x f1 hx.2.1
  ·rintro x ⟨i,k3,hi,hx⟩
   by_cases e:i=d
   ·subst e
    exact Or.inl ⟨b,k,hb,Or.inr (hP x (Env.oI hx)).1⟩
   ·obtain⟨k5,f1⟩:=any i k3 hi e
    exact Or.inl ⟨i,k5,f1,Env.l5 e hx⟩
 grind
def Env.take(E:Env)(b d:Nat)(tb:Ty):Env:=
 {E with bt:=fun c=>if c=b then tb else E.bt c,P:=fun c x=>E.P c x∨(c=b∧E.has d x)}
theorem Env.zn{E:Env}{b d:Nat}{tb:Ty}{c x:Nat}(h:(E.take b d tb).has c x):E.has c x∨(c=b∧E.has d x):=by
 rcases h with h|h|h
 ·exact Or.inl (Or.inl h)
 ·exact Or.inl (Or.inr h)
 grind
theorem FC{E:Env}{w:World}{b d:Nat}{tb:Ty}:Good E (E.take b d tb) w (gY b) where
 rc:=by
  intro x y vs h hr
  unfold gY at h
  split at h
  ·rename_i hn;cases h
   exact RC.mono (E:=E.re b tb) (E':=E.take b d tb) (w:=w) ⟨fun _ _=>rfl,fun _ h=>h⟩ (fun _ _=>⟨rfl,rfl,rfl⟩) (Fz hn hr)
  grind
 agg:=(xf (E:=E) (w:=w) (b:=b) (t:=tb)).agg
 mp:=(xf (E:=E) (w:=w) (b:=b) (t:=tb)).mp
 fn:=(xf (E:=E) (w:=w) (b:=b) (t:=tb)).fn
theorem bW.take{gl:Ctx}{σ:St}{E:Env}{a:Act}{w:World}(hg:bW gl σ E a w){b d:Nat}{k k1 k2:aN}{tb:Ty}{σ1:St}(hb:σ.hp[b]? =some (some k))(h16:16≤b)(hbd:b≠d)(hd:σ.hp[d]? =some (some k2))
 (hm:St.fT (gY b) {σ with hp:=(σ.hp.set b none).set d none}=some σ1) (hk1:RB (E.take b d tb) w b k1):
 bW gl {σ1 with hp:=σ1.hp.set b (some k1)} (E.take b d tb) a w∧Ext gl.md (Own σ.hp E) E w (Own (σ1.hp.set b (some k1)) (E.take b d tb)) (E.take b d tb) w:=by
 have adf:=FC (E:=E) (w:=w) (b:=b) (d:=d) (tb:=tb)
 unfold St.fT at hm
 split at hm
 ·rename_i hp' df' h3 h4
  cases hm
  have src:∀(i:Nat)(k3:aN),(hp'.set b (some k1))[i]? =some (some k3)→(i=b∧k1=k3)∨(i≠d∧i≠b∧∃k0,σ.hp[i]? =some (some k0)∧i7 (gY b) (some k0)=some (some k3)):=by
   intro i k3 hi
   rw[dm] at hi
   split at hi
   ·grind
   ·rename_i hne
    obtain⟨k0,e1,e2⟩:=jv h3 hi
    grind
  have own:∀(i:Nat)(k3:aN)(x:Nat),(hp'.set b (some k1))[i]? =some (some k3)→(E.take b d tb).has i x→∃j k0,σ.hp[j]? =some (some k0)∧E.has j x∧((i=b∧(j=b∨j=d))∨(i≠b∧i≠d∧j=i)):=by
   intro i k3 x hi hx
   rcases src i k3 hi with⟨e,_⟩|⟨e0,e1,k0,e3,_⟩
   ·subst e
    rcases Env.zn hx with h|⟨_,h⟩<;>grind
   ·rcases Env.zn hx with h|⟨e,_⟩<;>grind
  refine⟨⟨?_,?_,⟨?_,?_,?_,hg.hw.slt,hg.hw.gl,?_⟩,adf.RD h4 hg.df⟩,⟨rfl,Tp.r rfl rfl,rfl,cL _,fun _ _ _=>rfl,fun _ h=>h,fun _ h=>Or.inl h,?_,fun i hi=>⟨rfl,rfl,by simp[Env.take];grind⟩⟩⟩
  ·simp only[jt];exact hg.len
  ·intro i y hy u hu
   rcases ju hy with e|⟨x,e1,e2,e3⟩
   ·subst e;trivial
   ·exact RV.dK (adf.RV e3 (RV.je e2 (hg.tm i x e1 u hu)))
  ·intro i k3 hi
   rcases src i k3 hi with⟨e,e'⟩|⟨e0,e1,k0,e3,e4⟩
   ·grind
   ·exact adf.RB (fun _ h=>h) (b:=i) (b':=i) rfl rfl (by simp[Env.take,e1]) (fun _ x hx=>Or.inl hx) e4 (hg.hw.cE i k0 e3)
  ·intro i j k3 k4 x hi hj g1 g2
   obtain⟨i',k5,f1,f2,f3⟩:=own i k3 x hi g1
   obtain⟨j',k6,f4,f5,f6⟩:=own j k4 x hj g2
   have e:=hg.hw.dG i' j' k5 k6 x f1 f4 f2 f5
   grind
  ·intro i k3 x hi hx
   obtain⟨j,k0,f1,f2,_⟩:=own i k3 x hi hx
   exact hg.hw.dh j k0 x f1 f2
  ·intro i k3 x hi hx
   obtain⟨j,k0,f1,f2,_⟩:=own i k3 x hi (Or.inr hx)
   exact hg.hw.below f1 f2
  ·rintro x ⟨i,k3,hi,hx⟩
   obtain⟨j,k0,f1,f2,_⟩:=own i k3 x hi hx
   exact Or.inl ⟨j,k0,f1,f2⟩
 grind
end Go.Ax
namespace Go.Ax
def FD(b i d:Nat)(σ:St):Option St:=
 match ep σ.hp b with
 |some (.cS e bs (.slice bs2 t2) xs e2 none)=>if oH b&&σ.eW d&& !Nat.beq b d then(match St.fT (lu b d) {σ with hp:=σ.hp.set b none} with
  |some σ1=>some {σ1 with hp:=(σ1.hp.set b (some (.cS e bs (.slice bs2 t2) xs e2 (some (i,.own d))))).set d (some (.row e2 bs2 t2 (List.getD xs i [])))}
  |none=>none) else none
 |_=>none
theorem cW.FE{w:World}{S:Nat→Prop}{e:TypeId}{bs:Nat}{t:Ty}{v:Value}{og:Option Nat}{xs:List t.den}(h:cW w S e (.slice bs t) v og xs):KU w S e bs t v og xs:=h
theorem Wk.FD{gl:Ctx}{b i d:Nat}{σ σ':St}(h:Ax.FD b i d σ=some σ')(hi:∀e bs t xs e2 f,ep σ.hp b=some (.cS e bs t xs e2 f)→i<xs.length):Wk gl σ σ':=by
 intro E a w hg
 unfold Ax.FD at h
 split at h
 ·rename_i e bs bs2 t2 xs e2 hb0
  have hb:=cn σ.hp b _ hb0
  have hi:=hi _ _ _ _ _ _ hb0
  split at h
  ·rename_i hc
   simp only[aV] at hc
   obtain⟨⟨h16,hfr⟩,hbd⟩:=hc
   have hbd:b≠d:=fun e=>by simp_all
   split at h
   ·rename_i σ1 hm
    cases h
    obtain⟨h1,h2,h3,h4,h5,g,cap,c,og,q1,q2,q3,q4,q5,q6,q7,q8⟩:=hg.hw.cE b _ hb
    have hxi:xs[i]? =some (List.getD xs i []):=by grind
    obtain⟨u,r1,_,r3⟩:=q8 i _ hxi
    obtain⟨s1,s2,s3,av,cv,s4,s5,s6⟩:=(r3 (fun v hv=>by cases hv)).FE
    refine⟨_,hg.pull (og:=og i) (v:=u) (td:=.arr (List.length (List.getD xs i [])) t2) (tb:=lQ i xs.length (.slice bs2 t2)) hb (fc h16) hbd (St.dE hfr) ?_ hm ?_ ?_⟩
    ·intro x hx
     exact⟨(q7.own i x hx).1,fun e=>by rw[q3] at e;cases e;exact(q7.own i _ hx).2 rfl⟩
    ·refine⟨by simp[Env.pull,hbd,sJ],h2,h3,h4,fun i' v' hv'=>by cases hv';trivial,g,cap,c,fun j=>if j=i then none else og j,by simp[Env.pull,hbd];exact q1,q2,by simp[Env.pull,hbd];exact q3,q4,q5,q6,⟨?_,?_⟩,?_⟩
     ·intro j x hx
      have hx:(if j=i then none else og j)=some x:=hx
      split at hx
      ·cases hx
      ·rename_i hne
       obtain⟨k1,k2⟩:=q7.own j x hx
       exact⟨⟨hbd,k1,fun _ ho=>hne (q7.inj j i x hx ho)⟩,k2⟩
     ·intro j j' x hx hx'
      have hx:(if j=i then none else og j)=some x:=hx
      have hx':(if j'=i then none else og j')=some x:=hx'
      split at hx
      ·cases hx
      ·split at hx'
       ·cases hx'
       ·exact q7.inj j j' x hx hx'
     ·intro j x hx
      obtain⟨z,p1,p2,p3⟩:=q8 j x hx
      refine⟨z,p1,fun v' hv'=>?_,fun hv'=>?_⟩
      ·cases hv'
       rw[r1] at p1;cases p1
       refine⟨aA rfl,by show[u]= [(if d=d then u else E.sv d)];grind,av,List.length (List.getD xs i []),cv,?_⟩
       show(if d=d then u else E.sv d)=_
       grind
      ·have hne:j≠i:=fun e=>by grind
       simp only[hne,bY]
       exact cW.mono (fun _ _=>rfl) (fun _ h=>h) (fun _ _=>rfl) (p3 (fun v hv=>by cases hv))
    ·refine⟨by simp[Env.pull],s1,s2,s3,av,cv,by simp[Env.pull];exact s4,s5,?_⟩
     grind [Env.pull]
   grind
  grind
 grind
def oJ(b:Nat)(σ:St):Option St:=
 match ep σ.hp b with
 |
  some (.cS e bs (.slice bs2 t2) xs e2 (some (i,.own d)))=>match ep σ.hp d with
  |some (.row e3 bs3 t3 ys)=>if hc:Ty.same t3 t2=true then(if Nat.beq e3 e2&&Nat.beq bs3 bs2&&oH b&& !Nat.beq b d then(match St.fT (gY b) {σ with hp:=(σ.hp.set b none).set d none} with
   |some σ1=>some {σ1 with hp:=σ1.hp.set b (some (.cS e bs (.slice bs2 t2) (List.set xs i (Ty.aB hc▸ys)) e2 none))}
   |none=>none) else none) else none
  |_=>none
 |_=>none
theorem Wk.oJ{gl:Ctx}{b:Nat}{σ σ':St}(h:Ax.oJ b σ=some σ'):Wk gl σ σ':=by
 intro E a w hg
 unfold Ax.oJ at h
 split at h
 ·rename_i e bs bs2 t2 xs e2 i d hb0
  have hb:=cn σ.hp b _ hb0
  split at h
  ·rename_i e3 bs3 t3 ys hd0
   have hd:=cn σ.hp d _ hd0
   split at h
   ·rename_i hc
    have et:=Ty.aB hc
    subst et
    split at h
    ·rename_i hc2
     simp only[aV] at hc2
     obtain⟨⟨⟨c1,c2⟩,h16⟩,hbd⟩:=hc2
     have e1:=bR c1;have e2':=bR c2
     subst e1;subst e2'
     have hbd:b≠d:=fun e=>by grind
     split at h
     ·rename_i σ1 hm
      cases h
      obtain⟨h1,h2,h3,h4,h5,g,cap,c,og,q1,q2,q3,q4,q5,q6,q7,q8⟩:=hg.hw.cE b _ hb
      obtain⟨s0,s1,s2,s3,av,cv,s4,s5,s6⟩:=hg.hw.cE d _ hd
      obtain⟨hi,_⟩:=h5 i _ rfl
      refine⟨_,hg.take (tb:=.arr xs.length (.slice bs3 t3)) hb (fc h16) hbd hd hm ?_⟩
      refine⟨by simp[Env.take,sJ],h2,by grind,by grind,fun i' v' hv'=>(by cases hv'),g,cap,c,fun j=>if j=i then E.g d else og j,by rw[bQ];exact q1,q2,q3,q4,q5,by grind,⟨?_,?_⟩,?_⟩
      ·intro j x hx
       have hx:(if j=i then E.g d else og j)=some x:=hx
       split at hx
       ·refine⟨Or.inr ⟨rfl,Or.inl hx⟩,fun e=>?_⟩
        subst e
        exact hbd (hg.hw.sep b d _ _ x hb hd q3 hx)
       ·exact⟨Or.inl (q7.own j x hx).1,(q7.own j x hx).2⟩
      ·intro j j' x hx hx'
       have hx:(if j=i then E.g d else og j)=some x:=hx
       have hx':(if j'=i then E.g d else og j')=some x:=hx'
       split at hx<;>split at hx'
       ·grind
       ·exact absurd (hg.hw.dG b d _ _ x hb hd (Or.inr (q7.own j' x hx').1) (Or.inl hx)) hbd
       ·exact absurd (hg.hw.dG b d _ _ x hb hd (Or.inr (q7.own j x hx).1) (Or.inl hx')) hbd
       ·exact q7.inj j j' x hx hx'
      ·intro j x hx
       rw[dm] at hx
       by_cases e:i=j
       ·subst e
        rw[aA rfl,aA hi] at hx
        cases hx
        obtain⟨z,p1,p2,p3⟩:=q8 i (xs.getD i []) (by grind)
        obtain⟨_,p2,_⟩:=p2 _ rfl
        have ez:z=E.sv d:=by grind
        refine⟨z,p1,fun v hv=>(by cases hv),fun _=>?_⟩
        simp only[bH]
        refine⟨s1,s2,s3,av,cv,by grind,s5,?_⟩
        trivial
       ·rw[aC e] at hx
        obtain⟨z,p1,p2,p3⟩:=q8 j x hx
        refine⟨z,p1,fun v hv=>(by cases hv),fun _=>?_⟩
        have e':j≠i:=fun e'=>e e'.symm
        simp only[e',bY]
        exact p3 (fun v hv=>by grind)
     grind
    grind
   grind
  grind
 grind
end Go.Ax
namespace Go.Ax
def Env.tu(E:Env)(b:Nat)(R:Nat→Prop):Env:=
 {E with S:=fun g=>E.S g∨R g,P:=fun c x=>c≠b∧E.P c x}
theorem Env.l6{E:Env}{b:Nat}{R:Nat→Prop}{c x:Nat}(h:(E.tu b R).has c x):E.has c x:=h.imp id (fun k=>k.2)
theorem bW.tu{gl:Ctx}{σ:St}{E:Env}{a:Act}{w:World}(hg:bW gl σ E a w){b:Nat}{k k':aN}{R:Nat→Prop}(hb:σ.hp[b]? =some (some k))(hR:∀x,R x→E.P b x∧E.g b≠some x)(hk:RB (E.tu b R) w b k'):
 bW gl {σ with hp:=σ.hp.set b (some k')} (E.tu b R) a w∧Ext gl.md (Own σ.hp E) E w (Own (σ.hp.set b (some k')) (E.tu b R)) (E.tu b R) w:=by
 have kp:bJ E w (E.tu b R) w:=⟨fun _ _=>rfl,fun _ h=>Or.inl h⟩
 have src:∀(i:Nat)(k3:aN),(σ.hp.set b (some k'))[i]? =some (some k3)→(i=b∧k'=k3)∨(i≠b∧σ.hp[i]? =some (some k3)):=by
  grind
 have any:∀(i:Nat)(k3:aN),(σ.hp.set b (some k'))[i]? =some (some k3)→∃k0,σ.hp[i]? =some (some k0):=by
  grind
 refine⟨hg.carry kp (fun _ _=>⟨rfl,rfl,rfl⟩) ⟨?_,?_,?_,?_,hg.hw.fI kp,?_⟩,⟨rfl,Tp.r rfl rfl,rfl,cL _,fun _ _ _=>rfl,fun _ h=>Or.inl h,?_,?_,fun _ _=>⟨rfl,rfl,rfl⟩⟩⟩
 ·intro i k3 hi
  rcases src i k3 hi with⟨e,e'⟩|⟨e,e'⟩
  ·grind
  ·exact RB.mono kp (fun _ _=>⟨rfl,rfl,rfl⟩) (fun _ _=>rfl) (fun _ x hx=>⟨e,hx⟩) (hg.hw.cE i k3 e')
 ·intro i j k3 k4 x hi hj g1 g2
  obtain⟨k5,f1⟩:=any i k3 hi
  obtain⟨k6,f2⟩:=any j k4 hj
  exact hg.hw.dG i j k5 k6 x f1 f2 (Env.l6 g1) (Env.l6 g2)
 ·intro i k3 x hi hx hs
  obtain⟨k5,f1⟩:=any i k3 hi
  rcases hs with hs|hs
  ·exact hg.hw.dh i k5 x f1 (Env.l6 hx) hs
  ·obtain⟨r1,r2⟩:=hR x hs
   have e:=hg.hw.dG b i k k5 x hb f1 (Or.inr r1) (Env.l6 hx)
   subst e
   rcases hx with hx|hx
   ·trivial
   ·exact hx.1 rfl
 ·rintro x (hs|hs)
  ·exact hg.hw.slt x hs
  ·exact hg.hw.qE b k x hb (hR x hs).1
 ·intro i k3 x hi hx
  obtain⟨k5,f1⟩:=any i k3 hi
  exact hg.hw.qE i k5 x f1 hx.2
 ·rintro x (hs|hs)
  ·grind
  ·exact Or.inr (Or.inl ⟨b,k,hb,Or.inr (hR x hs).1⟩)
 ·rintro x ⟨i,k3,hi,hx⟩
  obtain⟨k5,f1⟩:=any i k3 hi
  exact Or.inl ⟨i,k5,f1,Env.l6 hx⟩
theorem cW.rel{w:World}{S S':Nat→Prop}{e:TypeId}(hS:∀b,S b→S' b){t:Ty}{v:Value}{og:Option Nat}{x:t.den}(hg:∀g,og=some g→S' g)(h:cW w S e t v og x):Rel w S' t [v] x:=by
 cases t with
 |
  slice bs t=>
  obtain⟨h1,h2,h3,a,cap,h4,h5,h6⟩:=h
  subst h4
  rcases h6 with⟨⟨k1,k2⟩,k3,k4⟩|⟨g,c,k1,k2,k3,k4,k5,k6⟩
  ·subst k4;exact⟨a,cap,rfl,fg _,h1,h2,Or.inl rfl⟩
  ·refine⟨a,cap,rfl,k5,h1,h2,Or.inr ⟨g,0,_,k2,hg g k1,?_,aT.mono (fun _ _=>Rel.mono (fun _ _=>rfl) hS) k6⟩⟩
   have:=nV.of_heap k3 0 (List.length x*t.size)
   grind
 |
  map k u=>
  obtain⟨es,h0,h1,h2,g,en,clock,h3,h4,h5,h6,h7,h8⟩:=h
  subst h0;subst h4
  exact⟨some g,rfl,Or.inr ⟨es,g,en,clock,rfl,rfl,hg g h3,h5,jE.mono (fun _ _=>gV.mono (fun _ _=>Rel.mono (fun _ _=>rfl) hS)) (fun _ _=>gV.mono (fun _ _=>Rel.mono (fun _ _=>rfl) hS)) h6,h1,h2,h7,h8⟩⟩
 |_=>trivial
def EA(b:Nat)(σ:St):Option St:=
 match ep σ.hp b with
 |some (.cS e bs t xs _ none)=>some {σ with hp:=σ.hp.set b (some (.row e bs t xs))}
 |some (.pmap k t es _ none)=>if t.isAgg then none else some {σ with hp:=σ.hp.set b (some (.map k t es))}
 |_=>none
theorem aT.at{α:Type}{r:List Value→α→Prop}:∀{xs:List α}{cs:List Value},cs.length=xs.length→(∀(i:Nat)(x:α),xs[i]? =some x→∃u,cs[i]? =some u∧r [u] x)→aT r cs xs
 |[],cs,hl,_=>uU hl
 |x::xs,[],hl,_=>by simp at hl
 |
  x::xs,c::cs,hl,h=>by
  obtain⟨u,h1,h2⟩:=h 0 x rfl
  simp at h1;subst h1
  exact⟨[c],cs,rfl,h2,aT.at (by simpa using hl) (fun i y hy=>by simpa using h (i+1) y (by simpa using hy))⟩
theorem RM.at{E:Env}{w:World}{k v:Ty}:∀{es:List (k.den×v.den)}{en:List MapEntry},en.length=es.length→(∀(i:Nat) x,es[i]? =some x→∃m,en[i]? =some m∧cC E w (.val k x.1) m.key∧cC E w (.val v x.2) m.val)→RM E w k v en es
 |[],[],_,_=>trivial
 |[],_::_,hl,_=>by simp at hl
 |_::_,[],hl,_=>by simp at hl
 |
  x::es,m::en,hl,h=>by
  obtain⟨u,h1,h2,h3⟩:=h 0 x rfl
  simp at h1;subst h1
  exact⟨h2,h3,RM.at (by simpa using hl) (fun i y hy=>by simpa using h (i+1) y (by simpa using hy))⟩
theorem Wk.EA{gl:Ctx}{b:Nat}{σ σ':St}(h:Ax.EA b σ=some σ'):Wk gl σ σ':=by
 intro E a w hg
 unfold Ax.EA at h
 split at h
 ·rename_i e bs t xs e2 hb0
  have hb:=cn σ.hp b _ hb0
  cases h
  obtain⟨h1,h2,h3,h4,h5,g,cap,c,og,q1,q2,q3,q4,q5,q6,q7,q8⟩:=hg.hw.cE b _ hb
  obtain⟨r1,r2⟩:=hg.tu (k':=.row e bs t xs) (R:=fun x=>∃i,og i=some x) hb (fun x ⟨i,hi⟩=>⟨(q7.own i x hi).1,fun e=>by rw[q3] at e;cases e;exact(q7.own i _ hi).2 rfl⟩) (by
   refine⟨h1,h3,h4,by omega,some ⟨g,0,none⟩,cap,q1,q2,Or.inr ⟨g,c,q3,rfl,q4,by grind,q6,?_⟩⟩
   rw[h2,Nat.mul_one]
   refine aT.at (by grind) (fun i x hx=>?_)
   have hi:=(List.getElem?_eq_some_iff.1 hx).1
   obtain⟨u,p1,_,p3⟩:=q8 i x hx
   refine⟨u,by grind,?_⟩
   exact cW.rel (fun b hb=>Or.inl hb) (fun x hx=>Or.inr ⟨i,hx⟩) (p3 (fun v hv=>by cases hv)))
  grind
 ·rename_i k t es e2 hb0
  have hb:=cn σ.hp b _ hb0
  split at h
  ·cases h
  ·rename_i acO
   cases h
   obtain⟨h1,h2,h3,g,en,clock,og,q1,q2,q3,q4,q5,q6,q7,q8⟩:=hg.hw.cE b _ hb
   have kp:bJ E w (E.tu b fun x=>∃i,og i=some x) w:=⟨fun _ _=>rfl,fun _ h=>Or.inl h⟩
   obtain⟨r1,r2⟩:=hg.tu (k':=.map k t es) (R:=fun x=>∃i,og i=some x) hb (fun x ⟨i,hi⟩=>⟨(q5.own i x hi).1,fun e=>by rw[q1] at e;cases e;exact(q5.own i _ hi).2 rfl⟩) (by
    refine⟨h1,h2,g,en,clock,q1,q2,RM.at (by grind) (fun i x hx=>?_),q3,q4⟩
    obtain⟨m,p1,p2,_,p4⟩:=q7 i x hx
    refine⟨m,by grind,cC.mono kp (fun _ hb=>by cases hb) p2,Or.inr ⟨by simpa[AV.isAgg] using acO,?_⟩⟩
    exact cW.rel (fun b hb=>Or.inl hb) (fun x hx=>Or.inr ⟨i,hx⟩) (p4 (fun v pr hv=>by cases hv)))
   grind
 grind
def FF(b:Nat)(e2:TypeId)(σ:St):Option St:=
 match ep σ.hp b with
 |some (.map k t [])=>some {σ with hp:=σ.hp.set b (some (.pmap k t [] e2 none))}
 |_=>none
theorem Wk.FF{gl:Ctx}{b:Nat}{e2:TypeId}{σ σ':St}(h:Ax.FF b e2 σ=some σ'):Wk gl σ σ':=by
 intro E a w hg
 unfold Ax.FF at h
 split at h
 ·rename_i k t hb0
  have hb:=cn σ.hp b _ hb0
  cases h
  obtain⟨h1,h2,g,en,clock,q1,q2,q3,q4,q5⟩:=hg.hw.cE b _ hb
  obtain⟨r1,r2⟩:=hg.tu (k':=.pmap k t [] e2 none) (R:=fun _=>False) hb (fun x hx=>hx.elim) (by
   have hn:en.toList= []:=by
    cases he:en.toList with
    |nil=>rfl
    |cons _ _=>rw[he] at q3;trivial
   have hs:en.size=0:=by simp_all
   exact⟨h1,h2,fun kx v pr hv=>(by cases hv),g,en,clock,fun _=>none,q1,q2,q4,q5,⟨fun i u hu=>(by cases hu),fun i j u hu=>(by cases hu)⟩,hs,fun i x hx=>by grind,fun kx v=>⟨fun hf=>(by cases hf),fun hf=>(by cases hf)⟩⟩)
  grind
 grind
end Go.Ax
namespace Go.Ax
theorem oK{kt vt:Ty}(hk:kt.keyed=true){k:kt.den}:∀{es:List (kt.den×vt.den)},ck kt k es=true→∃i:Nat,es[i]? =some (k,bw kt vt k es)
 |[],h=>by trivial
 |
  x::es,h=>by
  simp only[ck,fN] at h
  cases hb:aY kt k x.1 with
  |true=>exact⟨0,by simp_all[bw,cm]⟩
  |
   false=>
   rw[hb] at h
   obtain⟨i,hi⟩:=oK hk (h.resolve_left (by simp))
   exact⟨i+1,by grind [bw]⟩
theorem xg{kt vt:Ty}{k:kt.den}:∀{es:List (kt.den×vt.den)},ck kt k es=false→bw kt vt k es=vt.aD
 |[],_=>rfl
 |
  x::es,h=>by
  simp only[ck,Bool.or_eq_false_iff] at h
  simp only[bw,h.1,cJ,bY]
  exact xg h.2
theorem vq{E:Env}{w:World}{b d:Nat}{kt t:Ty}{es:List (kt.den×t.den)}{e2:TypeId}(hrb:RB E w b (.pmap kt t es e2 none))(hbd:b≠d){kx:kt.den}{y:t.den}{i:Nat}(hi:es[i]? =some (kx,y)):
 ∃u og,cW w E.S e2 t u og y∧(∀x,og=some x→E.P b x∧E.g b≠some x)∧
  ∀v pr td tb,v.cp t=true→RC (E.pull b d og u td tb) w v [u]→RB (E.pull b d og u td tb) w b (.pmap kt t es e2 (some (kx,v,pr))):=by
 obtain⟨z1,z2,z3,g,en,clock,og,y1,y2,y3,y4,y5,y6,y7,y8⟩:=hrb
 obtain⟨m,t1,t2,_,t4⟩:=y7 i _ hi
 refine⟨m.val,og i,t4 (fun v pr hv=>by cases hv),fun x hx=>⟨(y5.own i x hx).1,fun e=>by rw[y1] at e;cases e;exact(y5.own i _ hx).2 rfl⟩,?_⟩
 intro v pr td tb hc hr
 have kp:bJ E w (E.pull b d (og i) m.val td tb) w:=⟨fun _ _=>rfl,fun _ h=>h⟩
 refine⟨z1,z2,fun kx' v' pr' hv'=>by grind,g,en,clock,fun j=>if j=i then none else og j,by simp[Env.pull,hbd];exact y1,y2,y3,y4,⟨?_,?_⟩,y6,?_,?_⟩
 ·intro j x hx
  have hx:(if j=i then none else og j)=some x:=hx
  split at hx
  ·cases hx
  ·rename_i hne
   obtain⟨k1,k2⟩:=y5.own j x hx
   exact⟨⟨hbd,k1,fun _ ho=>hne (y5.inj j i x hx ho)⟩,k2⟩
 ·intro j j' x hx hx'
  have hx:(if j=i then none else og j)=some x:=hx
  have hx':(if j'=i then none else og j')=some x:=hx'
  split at hx
  ·cases hx
  ·split at hx'
   ·cases hx'
   ·exact y5.inj j j' x hx hx'
 ·intro j x hx
  obtain⟨m2,p1,p2,_,p4⟩:=y7 j x hx
  refine⟨m2,p1,cC.mono kp (fun _ hb=>by cases hb) p2,fun v' pr' hv'=>?_,fun hv'=>?_⟩
  ·obtain⟨xk,xv⟩:=x
   simp only[cX,gJ] at hv'
   obtain⟨e1,e2,e3⟩:=hv'
   subst e1;subst e2
   have e:=w7 z1 hi hx
   grind
  ·have hne:j≠i:=fun e=>by
    grind
   simp only[hne,bY]
   exact cW.mono (fun _ _=>rfl) (fun _ h=>h) (fun _ _=>rfl) (p4 (fun v pr hv=>by cases hv))
 grind
theorem Be{E:Env}{w:World}{b d:Nat}{kt t:Ty}{es:List (kt.den×t.den)}{e2:TypeId}(hrb:RB E w b (.pmap kt t es e2 none))(hbd:b≠d){kx:kt.den}(hn:kx∉es.map (·.1)){v:AV}{u:Value}{td tb:Ty}(hc:v.cp t=true)(hr:RC (E.pull b d none u td tb) w v [zeroV t]):
 RB (E.pull b d none u td tb) w b (.pmap kt t es e2 (some (kx,v,false))):=by
 obtain⟨z1,z2,z3,g,en,clock,og,y1,y2,y3,y4,y5,y6,y7,y8⟩:=hrb
 have kp:bJ E w (E.pull b d none u td tb) w:=⟨fun _ _=>rfl,fun _ h=>h⟩
 refine⟨z1,z2,fun kx' v' pr' hv'=>by grind,g,en,clock,og,by simp[Env.pull,hbd];exact y1,y2,y3,y4,y5.mono (fun x hx=>⟨hbd,hx,fun _=>by simp⟩),y6,?_,?_⟩
 ·intro j x hx
  obtain⟨m2,p1,p2,_,p4⟩:=y7 j x hx
  refine⟨m2,p1,cC.mono kp (fun _ hb=>by cases hb) p2,fun v' pr' hv'=>?_,fun hv'=>cW.mono (fun _ _=>rfl) (fun _ h=>h) (fun _ _=>rfl) (p4 (fun v pr hv=>by cases hv))⟩<;>grind
 grind
theorem vr{E:Env}{w:World}{b d:Nat}{kt t tb:Ty}(hk:kt.keyed=true){es:List (kt.den×t.den)}{e2:TypeId}{kx:kt.den}{v:AV}(hrb:RB E w b (.pmap kt t es e2 (some (kx,v,true)))){y:t.den}(ac7:∀u,RC E w v [u]→cW w E.S e2 t u (E.g d) y)
 (hsep:∀x,E.has b x→¬E.has d x):RB (E.take b d tb) w b (.pmap kt t (bB kt kx y es) e2 none):=by
 obtain⟨z1,z2,z3,g,en,clock,og,y1,y2,y3,y4,y5,y6,y7,y8⟩:=hrb
 have hin:=(y8 kx v).2 rfl
 obtain⟨⟨kx',y0⟩,hm,e⟩:=List.mem_map.1 hin
 have e:kx'=kx:=e
 subst e
 obtain⟨i,hi⟩:=List.mem_iff_getElem?.1 hm
 have hlt:i<es.length:=(List.getElem?_eq_some_iff.1 hi).1
 have hes:=w6 hk (y:=y) z1 hi
 have kp:bJ E w (E.take b d tb) w:=⟨fun _ _=>rfl,fun _ h=>h⟩
 refine⟨dX hk z1,by grind,fun kx' v' pr' hv'=>(by cases hv'),g,en,clock,fun j=>if j=i then E.g d else og j,y1,y2,y3,y4,⟨?_,?_⟩,by grind,?_,fun kx' v'=>⟨fun hf=>(by cases hf),fun hf=>(by cases hf)⟩⟩
 ·intro j x hx
  have hx:(if j=i then E.g d else og j)=some x:=hx
  split at hx
  ·exact⟨Or.inr ⟨rfl,Or.inl hx⟩,fun e=>by subst e;exact hsep x (Or.inl y1) (Or.inl hx)⟩
  ·exact⟨Or.inl (y5.own j x hx).1,(y5.own j x hx).2⟩
 ·intro j j' x hx hx'
  have hx:(if j=i then E.g d else og j)=some x:=hx
  have hx':(if j'=i then E.g d else og j')=some x:=hx'
  split at hx<;>split at hx'
  ·grind
  ·exact absurd (Or.inl hx) (hsep x (Or.inr (y5.own j' x hx').1))
  ·exact absurd (Or.inl hx') (hsep x (Or.inr (y5.own j x hx).1))
  ·exact y5.inj j j' x hx hx'
 ·rw[hes]
  intro j x hx
  rw[dm] at hx
  by_cases hne:i=j
  ·subst hne
   rw[aA rfl,aA hlt] at hx
   cases hx
   obtain⟨m,p1,p2,p3,_⟩:=y7 i _ hi
   refine⟨m,p1,cC.mono kp (fun _ hb=>by cases hb) p2,fun v' pr' hv'=>(by cases hv'),fun _=>?_⟩
   simp only[bH]
   exact ac7 _ (p3 v true rfl).2
  ·rw[aC hne] at hx
   obtain⟨m,p1,p2,p3,p4⟩:=y7 j x hx
   have hxk:x.1≠kx':=fun e=>by
    grind [w7]
   have hne':j≠i:=fun e=>hne e.symm
   refine⟨m,p1,cC.mono kp (fun _ hb=>by cases hb) p2,fun v' pr' hv'=>(by cases hv'),fun _=>?_⟩
   simp only[hne',bY]
   exact p4 (fun v' pr' hv'=>by grind)
end Go.Ax
namespace Go.Ax
def FG(mode b d:Nat)(kt:Ty)(kx:kt.den)(σ:St):Option (List VC×St):=
 match mode,ep σ.hp b with
 |0,some (.pmap k u es e2 none)=>if h:Ty.same k kt=true then(if k.keyed&&oH b&&u.uI&&AV.cp .dP u then some ([vc (ck k (Ty.aB h▸kx:k.den) es=false)],{σ with hp:=σ.hp.set b (some (.pmap k u es e2 (some ((Ty.aB h▸kx:k.den),.dP,false))))}) else none) else none
 |1,some (.pmap k (.map k2 v2) es e2 none)=>if h:Ty.same k kt=true then(if k.keyed&&oH b&&σ.eW d&& !Nat.beq b d then(match St.fT (lu b d) {σ with hp:=σ.hp.set b none} with
  |some σ1=>some ([vc (ck k (Ty.aB h▸kx:k.den) es=true)],{σ1 with hp:=(σ1.hp.set b (some (.pmap k (.map k2 v2) es e2 (some ((Ty.aB h▸kx:k.den),.mp d,true))))).set d (some (.map k2 v2 (bM (bw k (.map k2 v2) (Ty.aB h▸kx:k.den) es))))})
  |none=>none) else none) else none
 |2,some (.pmap k (.slice bs t2) es e2 none)=>if h:Ty.same k kt=true then(if k.keyed&&oH b&&σ.eW d&& !Nat.beq b d&&Nat.blt 0 t2.size then(match St.fT (lu b d) {σ with hp:=σ.hp.set b none} with
  |some σ1=>some ([],{σ1 with hp:=(σ1.hp.set b (some (.pmap k (.slice bs t2) es e2 (some ((Ty.aB h▸kx:k.den),.own d,false))))).set d (some (.row e2 bs t2 (bw k (.slice bs t2) (Ty.aB h▸kx:k.den) es)))})
  |none=>none) else none) else none
 |_,_=>none
theorem RB.LG{E:Env}{w:World}{d:Nat}{e:TypeId}{bs:Nat}{t:Ty}(hp:0<t.size)(h1:E.bt d= .arr 0 t)(h2:E.sv d= .slice none 0 0)(h3:E.g d=none):RB E w d (.row e bs t []):=
 ⟨h1,by simp,by simp,hp,none,0,h2,fg _,Or.inl ⟨⟨rfl,rfl⟩,h3,rfl⟩⟩
theorem Wk.FG{gl:Ctx}{mode b d:Nat}{kt:Ty}{kx:kt.den}{σ σ':St}{vcs:List VC}(h:Ax.FG mode b d kt kx σ=some (vcs,σ'))(hvc:dB vcs):Wk gl σ σ':=by
 intro E a w hg
 unfold Ax.FG at h
 split at h
 ·rename_i k u es e2 hb0
  have hb:=cn σ.hp b _ hb0
  split at h
  ·rename_i hs
   have et:=Ty.aB hs
   subst et
   split at h
   ·rename_i hc
    cases h
    simp only[aV] at hc
    obtain⟨⟨⟨hk,h16⟩,hm⟩,hcf⟩:=hc
    have hn:ck k kx es=false:=hvc.1
    have hn':kx∉es.map (·.1):=fun hm=>by rw[(eo hk).2 hm] at hn;cases hn
    obtain⟨z1,z2,z3,g,en,clock,og,y1,y2,y3,y4,y5,y6,y7,y8⟩:=hg.hw.cE b _ hb
    have hw:=hg.hw.write (w':=w) (k':=.pmap k u es e2 (some (kx,.dP,false))) hb rfl (fun _ _=>rfl) (by
     refine⟨z1,z2,fun kx' v' pr' hv'=>by grind,g,en,clock,og,y1,y2,y3,y4,y5,y6,?_,?_⟩
     ·grind
     ·intro kx' v'
      refine⟨fun hf _=>?_,fun hf=>?_⟩<;>cases hf
      rw[vf hm];rfl)
    exact⟨E,hg.carry ⟨fun _ _=>rfl,fun _ h=>h⟩ (fun _ _=>⟨rfl,rfl,rfl⟩) hw,{Ext.refl (md:=gl.md) (Own σ.hp E) E w with own:=fun g hg'=>Or.inl (Own.set hb hg')}⟩
   grind
  grind
 ·rename_i k k2 v2 es e2 hb0
  have hb:=cn σ.hp b _ hb0
  split at h
  ·rename_i hs
   have et:=Ty.aB hs
   subst et
   split at h
   ·rename_i hc
    simp only[aV] at hc
    obtain⟨⟨⟨hk,h16⟩,hfr⟩,hbd⟩:=hc
    have hbd:b≠d:=fun e=>by simp_all
    split at h
    ·rename_i σ1 hm
     cases h
     have hn:ck k kx es=true:=hvc.1
     obtain⟨i,hi⟩:=oK (vt:=.map k2 v2) hk hn
     obtain⟨u,og,s1,s2,s3⟩:=vq (hg.hw.cE b _ hb) hbd hi
     obtain⟨es',e0,m1,m2,g,en,clock,m3,m4,m5,m6,m7,m8⟩:=s1
     have ge:(E.pull b d og u .unit .unit).g d=some g:=by simp[Env.pull];exact m3
     refine⟨_,hg.pull (og:=og) (v:=u) (td:=.unit) (tb:=.unit) hb (fc h16) hbd (St.dE hfr) s2 hm (s3 (.mp d) true .unit .unit rfl ⟨g,ge,by rw[m4]⟩) ?_⟩
     rw[e0]
     exact⟨m1,m2,g,en,clock,ge,m5,RM.of (E:=E.pull b d og u .unit .unit) m6,m7,m8⟩
    grind
   grind
  grind
 ·rename_i k bs t2 es e2 hb0
  have hb:=cn σ.hp b _ hb0
  split at h
  ·rename_i hs
   have et:=Ty.aB hs
   subst et
   split at h
   ·rename_i hc
    simp only[aV] at hc
    obtain⟨⟨⟨⟨hk,h16⟩,hfr⟩,hbd⟩,hpos⟩:=hc
    have hbd:b≠d:=fun e=>by simp_all
    have hpos:0<t2.size:=by simp_all
    split at h
    ·rename_i σ1 hm
     cases h
     cases hn:ck k kx es with
     |
      true=>
      obtain⟨i,hi⟩:=oK (vt:=.slice bs t2) hk hn
      obtain⟨u,og,s1,s2,s3⟩:=vq (hg.hw.cE b _ hb) hbd hi
      obtain⟨q1,q2,q3,av,cv,q4,q5,q6⟩:=s1.FE
      refine⟨_,hg.pull (og:=og) (v:=u) (td:=.arr (List.length (bw k (.slice bs t2) kx es)) t2) (tb:=.unit) hb (fc h16) hbd (St.dE hfr) s2 hm (s3 (.own d) false _ .unit rfl ⟨by simp[Env.pull],av,List.length (bw k (.slice bs t2) kx es),cv,by simp[Env.pull];exact q4⟩) ?_⟩
      refine⟨by simp[Env.pull],q1,q2,q3,av,cv,by simp[Env.pull];exact q4,q5,?_⟩
      grind [Env.pull]
     |
      false=>
      have hn':kx∉es.map (·.1):=fun hm=>by rw[(eo hk).2 hm] at hn;cases hn
      have e0:bw k (.slice bs t2) kx es= []:=xg hn
      rw[e0]
      refine⟨_,hg.pull (og:=none) (v:=.slice none 0 0) (td:=.arr 0 t2) (tb:=.unit) hb (fc h16) hbd (St.dE hfr) (fun x hx=>by cases hx) hm (Be (hg.hw.cE b _ hb) hbd hn' rfl ⟨by simp[Env.pull,zeroV],none,0,0,by simp[Env.pull]⟩) ?_⟩
      grind [RB.LG,Env.pull]
    grind
   grind
  grind
 grind
def lv(b:Nat)(σ:St):Option St:=
 match ep σ.hp b with
 |
  some (.pmap k (.slice bs2 t2) es e2 (some (kx,.own d,true)))=>match ep σ.hp d with
  |some (.row e3 bs3 t3 ys)=>if hc:Ty.same t3 t2=true then(if k.keyed&&Nat.beq e3 e2&&Nat.beq bs3 bs2&&oH b&& !Nat.beq b d then(match St.fT (gY b) {σ with hp:=(σ.hp.set b none).set d none} with
   |some σ1=>some {σ1 with hp:=σ1.hp.set b (some (.pmap k (.slice bs2 t2) (bB k kx (Ty.aB hc▸ys:List t2.den) es) e2 none))}
   |none=>none) else none) else none
  |_=>none
 |
  some (.pmap k (.map k2 v2) es e2 (some (kx,.mp d,true)))=>match ep σ.hp d with
  |some (.map k3 v3 ys)=>if hc:Ty.same k3 k2=true∧Ty.same v3 v2=true then(if k.keyed&&oH b&& !Nat.beq b d then(match St.fT (gY b) {σ with hp:=(σ.hp.set b none).set d none} with
   |some σ1=>some {σ1 with hp:=σ1.hp.set b (some (.pmap k (.map k2 v2) (bB k kx (some (Ty.aB hc.1▸Ty.aB hc.2▸ys:List (k2.den×v2.den))) es) e2 none))}
   |none=>none) else none) else none
  |_=>none
 |_=>none
theorem Wk.lv{gl:Ctx}{b:Nat}{σ σ':St}(h:Ax.lv b σ=some σ'):Wk gl σ σ':=by
 intro E a w hg
 unfold Ax.lv at h
 split at h
 ·rename_i k bs2 t2 es e2 kx d hb0
  have hb:=cn σ.hp b _ hb0
  split at h
  ·rename_i e3 bs3 t3 ys hd0
   have hd:=cn σ.hp d _ hd0
   split at h
   ·rename_i hc
    have et:=Ty.aB hc
    subst et
    split at h
    ·rename_i hc2
     simp only[aV] at hc2
     obtain⟨⟨⟨⟨hk,c1⟩,c2⟩,h16⟩,hbd⟩:=hc2
     have e1:=bR c1;have e2':=bR c2
     subst e1;subst e2'
     have hbd:b≠d:=fun e=>by grind
     split at h
     ·rename_i σ1 hm
      cases h
      refine⟨_,hg.take (tb:=.unit) hb (fc h16) hbd hd hm (vr hk (hg.hw.cE b _ hb) ?_ (fun x h1 h2=>hbd (hg.hw.dG b d _ _ x hb hd h1 h2)))⟩
      intro u hu
      obtain⟨s0,s1,s2,s3,av,cv,s4,s5,s6⟩:=hg.hw.cE d _ hd
      obtain⟨hu,_⟩:=hu
      have eu:u=E.sv d:=by grind
      refine⟨s1,s2,s3,av,cv,by rw[eu];exact s4,s5,?_⟩<;>grind
     grind
    grind
   grind
  grind
 ·rename_i k k2 v2 es e2 kx d hb0
  have hb:=cn σ.hp b _ hb0
  split at h
  ·rename_i k3 v3 ys hd0
   have hd:=cn σ.hp d _ hd0
   split at h
   ·rename_i hc
    obtain⟨hc1,hc2⟩:=hc
    have et:=Ty.aB hc1
    subst et
    have et2:=Ty.aB hc2
    subst et2
    split at h
    ·rename_i hc2
     simp only[aV] at hc2
     obtain⟨⟨hk,h16⟩,hbd⟩:=hc2
     have hbd:b≠d:=fun e=>by grind
     split at h
     ·rename_i σ1 hm
      cases h
      refine⟨_,hg.take (tb:=.unit) hb (fc h16) hbd hd hm (vr hk (hg.hw.cE b _ hb) ?_ (fun x h1 h2=>hbd (hg.hw.dG b d _ _ x hb hd h1 h2)))⟩
      intro u hu
      obtain⟨s1,s2,g,en,clock,s3,s4,s5,s6,s7⟩:=hg.hw.cE d _ hd
      obtain⟨g',hg',eu⟩:=hu
      rw[s3] at hg';cases hg'
      have eu:u= .map (some g):=by grind
      exact⟨ys,rfl,s1,s2,g,en,clock,s3,eu,s4,RM.to s5,s6,s7⟩
     grind
    grind
   grind
  grind
 grind
end Go.Ax
namespace Go.Ax
def EB(b:Nat):AV→Bool
 | .own c| .jD c _ _| .eJ c=> !Nat.beq c b
 | .func _ fs cs=>EB b fs&&EB b cs&&fs.atoms&&cs.atoms
 | .iface _ v=>EB b v
 | .cons a c=>EB b a&&EB b c
 | .bot| .gk _| .opt _ _=>false
 |_=>true
def nn(b:Nat)(x:AV):Option AV:=if EB b x then some x else none
def Env.rs(E:Env)(b:Nat)(v:Value):Env:={E with sv:=fun c=>if c=b then v else E.sv c}
theorem Env.zo{E:Env}{b c:Nat}{v:Value}(h:c≠b):(E.rs b v).sv c=E.sv c:=by simp[Env.rs,h]
theorem FH{E:Env}{w:World}{b:Nat}{u:Value}:∀{x:AV}{vs:List Value},EB b x=true→RC E w x vs→RC (E.rs b u) w x vs:=by
 intro x
 have ne:∀{c:Nat},(!Nat.beq c b)=true→c≠b:=fun h e=>by simp_all
 induction x with
 |jD c lo len=>intro vs h hr;simp only[RC];rw[Env.zo (ne h)];exact hr
 |own c=>intro vs h hr;simp only[RC];rw[Env.zo (ne h)];exact hr
 |eJ c=>intro vs h hr;simp only[RC];rw[Env.zo (ne h)];exact hr
 |
  func fn fs cs ih1 ih2=>
  intro vs h hr
  simp only[EB,aV] at h
  obtain⟨f,c,e,h1,h2,h3,h4⟩:=hr
  exact⟨f,c,e,ih1 h.1.1.1 h1,ih2 h.1.1.2 h2,h3,h4⟩
 |
  iface t v ih=>
  intro vs h hr
  obtain⟨x,e,hr⟩:=hr
  refine⟨x,e,?_⟩
  rcases hr with⟨h1,cs,e2,h3⟩|⟨h1,h3⟩
  ·exact Or.inl ⟨h1,cs,e2,ih h h3⟩
  ·exact Or.inr ⟨h1,ih h h3⟩
 |
  cons a c ih1 ih2=>
  intro vs h hr
  simp only[EB,aV] at h
  obtain⟨v1,v2,e,h1,h2⟩:=hr
  exact⟨v1,v2,e,ih1 h.1 h1,ih2 h.2 h2⟩
 |bot=>intro vs h;trivial
 |gk l=>intro vs h;trivial
 |opt c v=>intro vs h;trivial
 |_=>intro vs h hr;exact hr
theorem LJ{E:Env}{w:World}{b:Nat}{v:Value}:Good E (E.rs b v) w (nn b) where
 rc:=by
  grind [nn,FH]
 agg:=by
  grind [nn]
 mp:=by
  intro c y h
  unfold nn at h
  split at h
  ·cases h;rfl
  grind
 fn:=by
  intro fn fs cs y h
  unfold nn at h
  split at h
  ·rename_i hn
   cases h
   simp only[EB,aV] at hn
   exact⟨fs,cs,rfl,by unfold nn;grind,by unfold nn;grind,hn.1.2,hn.2⟩
  grind
theorem bW.rs{gl:Ctx}{σ:St}{E:Env}{a:Act}{w:World}(hg:bW gl σ E a w){b:Nat}{k k':aN}{ty:Value}{σ1:St}(hb:σ.hp[b]? =some (some k))(h16:16≤b)(hm:St.fT (nn b) {σ with hp:=σ.hp.set b none}=some σ1)(hk:RB (E.rs b ty) w b k'):
 bW gl {σ1 with hp:=σ1.hp.set b (some k')} (E.rs b ty) a w∧Ext gl.md (Own σ.hp E) E w (Own (σ1.hp.set b (some k')) (E.rs b ty)) (E.rs b ty) w:=by
 have adf:=LJ (E:=E) (w:=w) (b:=b) (v:=ty)
 unfold St.fT at hm
 split at hm
 ·rename_i hp' df' h3 h4
  cases hm
  have src:∀(i:Nat)(k2:aN),(hp'.set b (some k'))[i]? =some (some k2)→(i=b∧k'=k2)∨(i≠b∧∃k0,σ.hp[i]? =some (some k0)∧i7 (nn b) (some k0)=some (some k2)):=by
   intro i k2 hi
   rw[dm] at hi
   split at hi
   ·grind
   ·rename_i hne
    obtain⟨k0,e1,e2⟩:=jv h3 hi
    grind
  have any:∀(i:Nat)(k2:aN),(hp'.set b (some k'))[i]? =some (some k2)→∃k0,σ.hp[i]? =some (some k0):=by
   grind
  refine⟨⟨?_,?_,⟨?_,?_,?_,hg.hw.slt,hg.hw.gl,?_⟩,adf.RD h4 hg.df⟩,⟨rfl,Tp.r rfl rfl,rfl,cL _,fun _ _ _=>rfl,fun _ h=>h,fun _ h=>Or.inl h,?_,fun i hi=>⟨rfl,Env.zo (by omega),rfl⟩⟩⟩
  ·simp only[jt];exact hg.len
  ·intro i y hy v hv
   rcases ju hy with e|⟨x,e1,e2,e3⟩
   ·subst e;trivial
   ·exact RV.dK (adf.RV e3 (RV.je e2 (hg.tm i x e1 v hv)))
  ·intro i k2 hi
   rcases src i k2 hi with⟨e,e'⟩|⟨e1,k0,e3,e4⟩
   ·grind
   ·exact adf.RB (fun _ h=>h) (b:=i) (b':=i) rfl (Env.zo e1) rfl (fun _ _ h=>h) e4 (hg.hw.cE i k0 e3)
  ·intro i j k2 k3 g hi hj g1 g2
   obtain⟨k4,e1⟩:=any i k2 hi
   obtain⟨k5,e2⟩:=any j k3 hj
   exact hg.hw.dG i j k4 k5 g e1 e2 g1 g2
  ·intro i k2 g hi hgi hs
   obtain⟨k4,e1⟩:=any i k2 hi
   exact hg.hw.dh i k4 g e1 hgi hs
  ·intro i k2 g hi hgi
   obtain⟨k4,e1⟩:=any i k2 hi
   exact hg.hw.qE i k4 g e1 hgi
  ·rintro g ⟨i,k2,hi,hgi⟩
   obtain⟨k4,e1⟩:=any i k2 hi
   exact Or.inl ⟨i,k4,e1,hgi⟩
 grind
def nH(b:Nat)(σ:St):Option St:=
 match ep σ.hp b with
 |
  some (.pmap k t es e2 (some (kx,v,pr)))=>if Nat.ble 16 b&&k.keyed&&EB b v then(match St.fT (nn b) {σ with hp:=σ.hp.set b none} with
  |some σ1=>some {σ1 with hp:=σ1.hp.set b (some (.fP k t es e2 kx v pr))}
  |none=>none) else none
 |_=>none
def l7(b:Nat)(σ:St):Option St:=
 match ep σ.hp b with
 |some (.fP k t es e2 kx v pr)=>some {σ with hp:=σ.hp.set b (some (.pmap k t es e2 (some (kx,v,pr))))}
 |_=>none
theorem PM.rs{E:Env}{w:World}{b:Nat}{u:Value}{kt t:Ty}{es:List (kt.den×t.den)}{e2:TypeId}{kx:kt.den}{v:AV}{pr:Bool}(hn:EB b v=true)(h:PM E w b kt t es e2 (some (kx,v,pr))):PM (E.rs b u) w b kt t es e2 (some (kx,v,pr)):=by
 obtain⟨h1,h2,h3,g,en,clock,og,q1,q2,q3,q4,q5,q6,q7,q8⟩:=h
 refine⟨h1,h2,h3,g,en,clock,og,q1,q2,q3,q4,q5,q6,fun i x hx=>?_,fun kx' v'=>⟨fun hf hnn=>?_,(q8 kx' v').2⟩⟩
 ·obtain⟨m,r1,r2,r3,r4⟩:=q7 i x hx
  refine⟨m,r1,cC.mono (E:=E) (E':=E.rs b u) ⟨fun _ _=>rfl,fun _ h=>h⟩ (fun _ hb=>by cases hb) r2,fun v' pr' hv'=>?_,fun hv'=>r4 hv'⟩
  grind [FH]
 grind [FH]
theorem Wk.nH{gl:Ctx}{b:Nat}{σ σ':St}(h:Ax.nH b σ=some σ'):Wk gl σ σ':=by
 intro E a w hg
 unfold Ax.nH at h
 split at h
 case h_2=>cases h
 rename_i k t es e2 kx v pr hb0
 have hb:=cn σ.hp b _ hb0
 split at h
 case isFalse=>cases h
 rename_i hc
 simp only[aV] at hc
 obtain⟨⟨c1,c2⟩,c3⟩:=hc
 split at h
 case h_2=>cases h
 rename_i σ1 hm
 cases h
 have hpm:PM E w b k t es e2 (some (kx,v,pr)):=hg.hw.cE b _ hb
 have hpm':=hpm
 obtain⟨z1,z2,z3,g,en,clock,og,y1,y2,y3,y4,y5,y6,y7,y8⟩:=hpm'
 have key:∃n:Nat,(kx∉es.map (·.1)→n=clock)∧∀(i:Nat)(m:MapEntry)(y:t.den),es[i]? =some (kx,y)→en[i]? =some m→m.born=n:=by
  by_cases hin:kx∈es.map (·.1)
  ·obtain⟨⟨zk,zy⟩,hz,ez⟩:=List.mem_map.1 hin
   simp only at ez;subst ez
   obtain⟨i,s1⟩:=List.getElem?_of_mem hz
   obtain⟨m,s2,_⟩:=y7 i _ s1
   refine⟨m.born,fun hh=>absurd hin hh,fun j m' y hj hm'=>?_⟩
   grind [w7]
  ·refine⟨clock,fun _=>rfl,fun j m' y hj _=>?_⟩<;>grind
 obtain⟨n,k1,k2⟩:=key
 refine⟨_,hg.rs (ty:=.int .i64 n) hb (fc c1) hm ⟨hpm.rs c3,n,g,en,clock,by simp[Env.rs],y1,y2,k1,k2⟩⟩
theorem Wk.l7{gl:Ctx}{b:Nat}{σ σ':St}(h:Ax.l7 b σ=some σ'):Wk gl σ σ':=by
 intro E a w hg
 unfold Ax.l7 at h
 split at h
 ·rename_i k t es e2 kx v pr hb0
  have hb:=cn σ.hp b _ hb0
  cases h
  obtain⟨hpm,_⟩:=hg.hw.cE b _ hb
  have hw:=hg.hw.write (w':=w) (k':=.pmap k t es e2 (some (kx,v,pr))) hb rfl (fun _ _=>rfl) hpm
  exact⟨E,hg.carry ⟨fun _ _=>rfl,fun _ h=>h⟩ (fun _ _=>⟨rfl,rfl,rfl⟩) hw,{Ext.refl (md:=gl.md) (Own σ.hp E) E w with own:=fun g hg'=>Or.inl (Own.set hb hg')}⟩
 grind
end Go.Ax
namespace Go.Ax
def IB(b b' c:Nat):Nat:=if Nat.beq c b then b' else c
def rn(b b':Nat):AV→Option AV
 | .own c=>some (.own (IB b b' c))
 | .jD c lo len=>some (.jD (IB b b' c) lo len)
 | .iW c p lo len=>some (.iW (IB b b' c) p lo len)
 | .ptr c p=>some (.ptr (IB b b' c) p)
 | .mp c=>some (.mp (IB b b' c))
 |
  .func fn fs cs=>match rn b b' fs,rn b b' cs with
  |some f,some c=>if f.atoms&&c.atoms then some (.func fn f c) else none
  |_,_=>none
 |
  .iface u v=>match rn b b' v with
  |some x=>some (.iface u x)
  |none=>none
 |
  .cons x y=>match rn b b' x,rn b b' y with
  |some u,some v=>some (.cons u v)
  |_,_=>none
 | .bot=>none
 | .gk _=>none
 | .opt _ _=>none
 | .eJ _=>none
 |x=>some x
def Env.mv(E:Env)(b b':Nat):Env:={E with P:=fun c=>if c=b' then E.P b else E.P c,g:=fun c=>if c=b' then E.g b else E.g c,sv:=fun c=>if c=b' then E.sv b else E.sv c,bt:=fun c=>if c=b' then E.bt b else E.bt c}
theorem vu{E:Env}{b b' c:Nat}(h:c≠b'):(E.mv b b').g (IB b b' c)=E.g c∧(E.mv b b').sv (IB b b' c)=E.sv c∧(E.mv b b').bt (IB b b' c)=E.bt c:=by
 grind [IB,bR,Env.mv]
theorem FJ(b b':Nat)(x y:AV)(h:rn b b' x=some y):y.isAgg=x.isAgg:=by
 cases x with
 |
  func fn fs cs=>
  simp only[rn] at h
  split at h
  ·split at h
   ·cases h;rfl
   grind
  grind
 |
  iface u v=>
  simp only[rn] at h
  split at h
  ·cases h;rfl
  grind
 |
  cons a c=>
  simp only[rn] at h
  split at h
  ·cases h;rfl
  grind
 |bot=>trivial
 |gk l=>trivial
 |opt c v=>trivial
 |eJ c=>trivial
 |_=>simp only[rn,cX] at h;subst h;rfl
theorem Om{E:Env}{w:World}{b b':Nat}:∀{x y:AV}{vs:List Value},b'∉x.ids→rn b b' x=some y→RC E w x vs→RC (E.mv b b') w y vs:=by
 intro x
 induction x with
 |own c=>
  intro y vs hi h hr;simp only[rn,cX] at h;subst h
  obtain⟨_,e2,_⟩:=vu (E:=E) (b:=b) (b':=b') (c:=c) (fun e=>hi (by simp[AV.ids,e]))
  simp only[RC];rw[e2];exact hr
 |jD c lo len=>
  intro y vs hi h hr;simp only[rn,cX] at h;subst h
  obtain⟨_,e2,e3⟩:=vu (E:=E) (b:=b) (b':=b') (c:=c) (fun e=>hi (by simp[AV.ids,e]))
  simp only[RC];rw[e2,e3];exact hr
 |iW c p lo len=>
  intro y vs hi h hr;simp only[rn,cX] at h;subst h
  obtain⟨e1,_,e3⟩:=vu (E:=E) (b:=b) (b':=b') (c:=c) (fun e=>hi (by simp[AV.ids,e]))
  simp only[RC];rw[e1,e3];exact hr
 |ptr c p=>grind [rn,vu,AV.ids,RC]
 |mp c=>grind [rn,vu,AV.ids,RC]
 |
  func fn fs cs ih1 ih2=>
  intro y vs hi h hr
  simp only[rn] at h
  simp only[AV.ids,j4,not_or] at hi
  split at h
  ·rename_i f c h1 h2
   split at h
   ·rename_i ha
    cases h
    simp only[aV] at ha
    obtain⟨f',c',e,r1,r2,_,_⟩:=hr
    exact⟨f',c',e,ih1 hi.1 h1 r1,ih2 hi.2 h2 r2,ha.1,ha.2⟩
   grind
  grind
 |
  iface u v ih=>
  intro y vs hi h hr
  simp only[rn] at h
  split at h
  ·rename_i z hz
   cases h
   obtain⟨x,e,hr⟩:=hr
   refine⟨x,e,?_⟩
   have acO:=FJ b b' v z hz
   rcases hr with⟨h1,cs,e2,h3⟩|⟨h1,h3⟩
   ·exact Or.inl ⟨by grind,cs,e2,ih hi hz h3⟩
   ·exact Or.inr ⟨by grind,ih hi hz h3⟩
  grind
 |
  cons a c ih1 ih2=>
  intro y vs hi h hr
  simp only[rn] at h
  simp only[AV.ids,j4,not_or] at hi
  split at h
  ·rename_i u v h1 h2
   cases h
   obtain⟨v1,v2,e,r1,r2⟩:=hr
   exact⟨v1,v2,e,ih1 hi.1 h1 r1,ih2 hi.2 h2 r2⟩
  grind
 |bot=>intro y vs _ h;trivial
 |gk l=>intro y vs _ h;trivial
 |opt c v=>intro y vs _ h;trivial
 |eJ c=>intro y vs _ h;trivial
 |_=>intro y vs _ h hr;simp only[rn,cX] at h;subst h;exact hr
theorem LK{E:Env}{w:World}{b b':Nat}:Good E (E.mv b b') w (fun x=>if cK b' x.ids then none else rn b b' x) where
 mp:=by
  intro c y h
  split at h
  ·cases h
  ·rename_i hn
   have hn:=eH (show cK b' (AV.mp c).ids=false by grind)
   grind [rn,vu,AV.ids]
 rc:=by
  grind [Om,eH]
 agg:=by
  grind [FJ]
 fn:=
  by
  intro fn fs cs y h
  split at h
  ·cases h
  ·rename_i hn
   have hn:=eH (show cK b' (AV.func fn fs cs).ids=false by grind)
   simp only[AV.ids,j4,not_or] at hn
   simp only[rn] at h
   have f1:cK b' fs.ids=false:=by
    cases hh:cK b' fs.ids with
    |false=>rfl
    |true=>exact absurd (hasNatMem hh) hn.1
   have f2:cK b' cs.ids=false:=by
    cases hh:cK b' cs.ids with
    |false=>rfl
    |true=>exact absurd (hasNatMem hh) hn.2
   grind
where
 hasNatMem {d:Nat}:∀{l:List Nat},cK d l=true→d∈l
  |[],h=>by cases h
  |
   x::l,h=>by
   simp only[cK,fN] at h
   rcases h with h|h
   ·simp_all
   ·exact dT _ (hasNatMem h)
def rename(b b':Nat)(σ:St):Option St:=
 match ep σ.hp b,ep σ.hp b' with
 |
  some k,none=>if Nat.beq b b'||Nat.blt b' 16 then none else
  match St.fT (fun x=>if cK b' x.ids then none else rn b b' x) {σ with hp:=σ.hp.set b none},i7 (fun x=>if cK b' x.ids then none else rn b b' x) (some k) with
  |some σ',some k'=>some {σ' with hp:=σ'.hp.set b' k'}
  |_,_=>none
 |_,_=>none
theorem Wk.rename{gl:Ctx}{b b':Nat}{σ σ':St}(h:Ax.rename b b' σ=some σ'):Wk gl σ σ':=by
 intro E a w hg
 unfold Ax.rename at h
 split at h
 ·rename_i k hk hk'
  have hbk:=cn σ.hp b k hk
  split at h
  ·cases h
  ·rename_i hne0
   have hne:b≠b':=fun e=>hne0 (by simp[e])
   have h16:16≤b':=by
    simp_all
   split at h
   ·rename_i σ1 k1 h1 h2
    cases h
    unfold St.fT at h1
    split at h1
    ·rename_i hp' df' h3 h4
     cases h1
     have adf:=LK (E:=E) (w:=w) (b:=b) (b':=b')
     have hEh:∀i j,(i=b'→j=b)→(i≠b'→j=i)→∀x,(E.mv b b').has i x↔E.has j x:=by
      grind [Env.has,Env.mv]
     have hEo:∀i,i≠b'→(E.mv b b').g i=E.g i∧(E.mv b b').sv i=E.sv i∧(E.mv b b').bt i=E.bt i:=fun i hi=>by simp[Env.mv,hi]
     have hEn:(E.mv b b').g b'=E.g b∧(E.mv b b').sv b'=E.sv b∧(E.mv b b').bt b'=E.bt b:=by simp[Env.mv]
     have src:∀(i:Nat)(k':aN),(hp'.set b' k1)[i]? =some (some k')→(i=b'∧k1=some k')∨(i≠b'∧i≠b∧∃k0,σ.hp[i]? =some (some k0)∧i7 (fun x=>if cK b' x.ids then none else rn b b' x) (some k0)=some (some k')):=by
      intro i k' hi
      rw[dm] at hi
      split at hi
      ·grind
      grind [jv]
     have gOf:∀(i:Nat)(k':aN),(hp'.set b' k1)[i]? =some (some k')→∃j k0,σ.hp[j]? =some (some k0)∧(∀x,(E.mv b b').has i x↔E.has j x)∧(i=b'→j=b)∧(i≠b'→j=i):=by
      grind
     refine⟨E.mv b b',⟨?_,?_,⟨?_,?_,?_,hg.hw.slt,hg.hw.gl,?_⟩,adf.RD h4 hg.df⟩,⟨rfl,Tp.r rfl rfl,rfl,cL _,fun _ _ _=>rfl,fun _ h=>h,fun _ h=>Or.inl h,?_,fun i hi=>hEo i (by omega)⟩⟩
     ·simp only[jt];exact hg.len
     ·intro i y hy v hv
      rcases ju hy with e|⟨x,e1,e2,e3⟩
      ·subst e;trivial
      ·exact RV.dK (adf.RV e3 (RV.je e2 (hg.tm i x e1 v hv)))
     ·intro i k' hi
      rcases src i k' hi with⟨e,e'⟩|⟨e1,e2,k0,e3,e4⟩
      ·subst e
       rw[e'] at h2
       exact adf.RB (fun _ h=>h) (b:=b) (b':=i) hEn.1 hEn.2.1 hEn.2.2 (fun _ g hp=>by simpa[Env.mv] using hp) h2 (hg.hw.cE b k hbk)
      ·exact adf.RB (fun _ h=>h) (b:=i) (b':=i) (hEo i e1).1 (hEo i e1).2.1 (hEo i e1).2.2 (fun _ g hp=>by simpa[Env.mv,e1] using hp) e4 (hg.hw.cE i k0 e3)
     ·intro i j k2 k3 g' hi hj g1 g2
      obtain⟨i',k4,e1,e2,e3,e4⟩:=gOf i k2 hi
      obtain⟨j',k5,f1,f2,f3,f4⟩:=gOf j k3 hj
      have g1:=(e2 _).1 g1;have g2:=(f2 _).1 g2
      have hij:=hg.hw.dG i' j' k4 k5 g' e1 f1 g1 g2
      grind
     ·intro i k' g' hi hgi hs
      obtain⟨i',k4,e1,e2,_,_⟩:=gOf i k' hi
      exact hg.hw.dh i' k4 g' e1 ((e2 _).1 hgi) hs
     ·intro i k' g' hi hgi
      obtain⟨i',k4,e1,e2,_,_⟩:=gOf i k' hi
      rcases(e2 _).1 (Or.inr hgi) with q|q
      ·exact Own.below hg.hw ⟨i',k4,e1,Or.inl q⟩
      ·exact hg.hw.qE i' k4 g' e1 q
     ·rintro g' ⟨i,k',hi,hgi⟩
      obtain⟨i',k4,e1,e2,_,_⟩:=gOf i k' hi
      exact Or.inl ⟨i',k4,e1,(e2 _).1 hgi⟩
    grind
   grind
 grind
def xh(s b:Nat)(e:TypeId)(bs:Nat)(t:Ty)(σ:St):Option St:=
 match σ.tm[s]? with
 |some .bA=>if σ.eW b&&Nat.blt 0 t.size then some {σ with tm:=σ.tm.set s (.own b),hp:=σ.hp.set b (some (.row e bs t []))} else none
 |_=>none
theorem Wk.xh{gl:Ctx}{s b:Nat}{e:TypeId}{bs:Nat}{t:Ty}{σ σ':St}(h:Ax.xh s b e bs t σ=some σ'):Wk gl σ σ':=by
 intro E a w hg
 unfold Ax.xh at h
 split at h
 ·rename_i hs
  split at h
  ·rename_i hc
   cases h
   simp only[aV] at hc
   have hlt:s<a.tmps.size:=by rw[hg.len];grind
   have ha:=RV.atom rfl (hg.tm s _ hs a.tmps[s] (by grind))
   simp[RC] at ha
   have hsz:0<t.size:=by simp_all
   obtain⟨g1,x1⟩:=hg.fresh (w':=w) (St.dE hc.1) (g:=none) (sv:=.slice none 0 0) (t:=.arr 0 t) (k:=.row e bs t []) rfl (Tp.r rfl rfl) rfl (cL _) (fun _ _=>rfl) (fun i hi=>by cases hi)
    ⟨by simp[Env.at],by simp,by simp,hsz,none,0,by simp[Env.at],by grind,Or.inl ⟨⟨rfl,rfl⟩,by simp[Env.at],rfl⟩⟩
   refine⟨_,⟨by simp[hg.len],?_,g1.hw,g1.df⟩,x1⟩
   intro i x hx v hv
   rw[dm] at hx
   split at hx
   ·rename_i e';subst e'
    split at hx
    ·cases hx
     have:v= .slice none 0 0:=by grind
     subst this
     exact RV.dK (Or.inr ⟨rfl,by simp[Env.at],none,0,0,by simp[Env.at]⟩)
    grind
   ·exact g1.tm i x hx v hv
  grind
 grind
def j5:Ty→Path→Bool
 | .pair a _,.cw 0::p=>j5 a p
 | .pair _ b,.cw (k+1)::p=>j5 b (.cw k::p)
 |_,[]=>true
 |_,_=>false
theorem mw:∀{t:Ty}{p:Path},j5 t p=true→t.valid p:=by
 intro t
 induction t with
 |
  pair a b ih1 ih2=>
  intro p h
  cases p with
  |nil=>trivial
  |
   cons s p=>
   cases s with
   |
    cw k=>cases k with
    |zero=>grind [j5,Ty.valid]
    |succ k=>grind [j5,Ty.valid]
   |idx i=>trivial
 |
  _=>
  grind [Ty.valid,j5]
def rp(c:Nat)(p:Path)(b:Nat)(e:TypeId)(bs:Nat)(t:Ty)(σ:St):Option St:=
 match ep σ.hp c with
 |
  some (.var tt v)=>match v.get p,v.set p (.own b) with
  |some .bA,some u=>if σ.eW b&&Nat.blt 0 t.size&&u.cp tt&&j5 tt p&& !Nat.beq c b then some {σ with hp:=(σ.hp.set b (some (.row e bs t []))).set c (some (.var tt u))} else none
  |_,_=>none
 |
  some (.bU e2 bs2 tt xs i v)=>match v.get p,v.set p (.own b) with
  |some .bA,some u=>if σ.eW b&&Nat.blt 0 t.size&&u.cp tt&&j5 tt p&& !Nat.beq c b then some {σ with hp:=(σ.hp.set b (some (.row e bs t []))).set c (some (.bU e2 bs2 tt xs i u))} else none
  |_,_=>none
 |_=>none
theorem Wk.rp{gl:Ctx}{c:Nat}{p:Path}{b:Nat}{e:TypeId}{bs:Nat}{t:Ty}{σ σ':St}(h:Ax.rp c p b e bs t σ=some σ'):Wk gl σ σ':=by
 intro E a w hg
 unfold Ax.rp at h
 split at h
 ·rename_i tt v hc
  have hbk:=cn σ.hp c _ hc
  split at h
  ·rename_i u ac2 aQ
   split at h
   ·rename_i hk
    cases h
    simp only[aV] at hk
    obtain⟨⟨⟨⟨k1,k2⟩,k3⟩,k4⟩,k5⟩:=hk
    have hcb:c≠b:=fun e'=>by simp_all
    have hsz:0<t.size:=by simp_all
    obtain⟨g1,x1⟩:=hg.fresh (w':=w) (St.dE k1) (g:=none) (sv:=.slice none 0 0) (t:=.arr 0 t) (k:=.row e bs t []) rfl (Tp.r rfl rfl) rfl (cL _) (fun _ _=>rfl) (fun i hi=>by cases hi)
     ⟨by simp[Env.at],by simp,by simp,hsz,none,0,by simp[Env.at],by grind,Or.inl ⟨⟨rfl,rfl⟩,by simp[Env.at],rfl⟩⟩
    have hb1:(σ.hp.set b (some (.row e bs t [])))[c]? =some (some (.var tt v)):=by
     grind
    obtain⟨r1,r2,g,cs,e',r3,r4,r5⟩:=g1.hw.cE c _ hb1
    have hva:=mw k4
    obtain⟨s,q1,q2,q3,q4⟩:=AV.eV r5 r2 hva ac2
    have hs1:s.size=1:=AV.dJ q2▸rfl
    have hown:RC (E.at b none (.slice none 0 0) (.arr 0 t)) w (.own b) [.slice none 0 0]:=⟨by simp[Env.at],none,0,0,by simp[Env.at]⟩
    obtain⟨s',p1,p2,p3,p4⟩:=AV.kJ hown r5 r2 hva (fun s' hs'=>by grind) aQ
    rw[q1] at p1;cases p1
    simp only[RC] at q4
    have hcs:cs.toList.take (tt.off p)++[Value.slice none 0 0]++cs.toList.drop (tt.off p+s.size)=cs.toList:=by
     grind [lh]
    rw[hcs] at p4
    have hw2:=g1.hw.write (w':=w) (k':=.var tt u) hb1 rfl (fun _ _=>rfl) ⟨r1,k3,g,cs,e',r3,r4,p4⟩
    refine⟨_,⟨g1.len,g1.tm,hw2,g1.df⟩,{x1 with own:=?_ }⟩
    intro g' hg'
    exact x1.own g' (Own.lU hb1 hg')
   grind
  grind
 ·rename_i e2 bs2 tt xs i v hc
  have hbk:=cn σ.hp c _ hc
  split at h
  ·rename_i u ac2 aQ
   split at h
   ·rename_i hk
    cases h
    simp only[aV] at hk
    obtain⟨⟨⟨⟨k1,k2⟩,k3⟩,k4⟩,k5⟩:=hk
    have hcb:c≠b:=fun e'=>by simp_all
    have hsz:0<t.size:=by simp_all
    obtain⟨g1,x1⟩:=hg.fresh (w':=w) (St.dE k1) (g:=none) (sv:=.slice none 0 0) (t:=.arr 0 t) (k:=.row e bs t []) rfl (Tp.r rfl rfl) rfl (cL _) (fun _ _=>rfl) (fun i hi=>by cases hi)
     ⟨by simp[Env.at],by simp,by simp,hsz,none,0,by simp[Env.at],by grind,Or.inl ⟨⟨rfl,rfl⟩,by simp[Env.at],rfl⟩⟩
    have hb1:(σ.hp.set b (some (.row e bs t [])))[c]? =some (some (.bU e2 bs2 tt xs i v)):=by
     grind
    obtain⟨h1,h2,h3,h4,h5,r2,g,cap,cs,z1,z2,z3,z4,z5,z6,z7,r5,z9⟩:=g1.hw.cE c _ hb1
    have hva:=mw k4
    obtain⟨s,q1,q2,q3,q4⟩:=AV.eV r5 r2 hva ac2
    have hs1:s.size=1:=AV.dJ q2▸rfl
    have hown:RC (E.at b none (.slice none 0 0) (.arr 0 t)) w (.own b) [.slice none 0 0]:=⟨by simp[Env.at],none,0,0,by simp[Env.at]⟩
    obtain⟨s',p1,p2,p3,p4⟩:=AV.kJ hown r5 r2 hva (fun s' hs'=>by grind) aQ
    rw[q1] at p1;cases p1
    simp only[RC] at q4
    have hcs:((cs.toList.drop (i*tt.size)).take tt.size).take (tt.off p)++[Value.slice none 0 0]++((cs.toList.drop (i*tt.size)).take tt.size).drop (tt.off p+s.size)=(cs.toList.drop (i*tt.size)).take tt.size:=by
     grind [jM,lh]
    rw[hcs] at p4
    have hw2:=g1.hw.write (w':=w) (k':=.bU e2 bs2 tt xs i u) hb1 rfl (fun _ _=>rfl) ⟨h1,h2,h3,h4,h5,k3,g,cap,cs,z1,z2,z3,z4,z5,z6,z7,p4,z9⟩
    refine⟨_,⟨g1.len,g1.tm,hw2,g1.df⟩,{x1 with own:=?_ }⟩
    intro g' hg'
    exact x1.own g' (Own.lU hb1 hg')
   grind
  grind
 grind
def Env.tr(E:Env)(b d:Nat)(v:Value)(t:Ty):Env:=
 {E with P:=fun c=>if c=d then E.P b else E.P c,g:=fun c=>if c=d then E.g b else E.g c,sv:=fun c=>if c=d then v else E.sv c,bt:=fun c=>if c=d then t else E.bt c}
theorem Env.C9{E:Env}{b d:Nat}{v:Value}{t:Ty}{ids:List Nat}(h:d∉ids):E.on (E.tr b d v t) ids:=fun c hc=>by
 grind [Env.tr]
def np(c:Nat)(p:Path)(d:Nat)(σ:St):Option St:=
 match ep σ.hp c with
 |
  some (.var tt v)=>match v.get p,v.set p (.own d) with
  |
   some (.jD b 0 len),some u=>match ep σ.hp b with
   |some (.row e bs t xs)=>if σ.eW d&&u.cp tt&&j5 tt p&& !Nat.beq c b then some {σ with hp:=((σ.hp.set b none).set d (some (.row e bs t (xs.take len)))).set c (some (.var tt u))} else none
   |_=>none
  |_,_=>none
 |_=>none
theorem Wk.np{gl:Ctx}{c:Nat}{p:Path}{d:Nat}{σ σ':St}(h:Ax.np c p d σ=some σ'):Wk gl σ σ':=by
 intro E a w hg
 unfold Ax.np at h
 split at h
 case h_2=>cases h
 rename_i tt v hc
 have hbk:=cn σ.hp c _ hc
 split at h
 case h_2=>cases h
 rename_i b len u ac2 aQ
 split at h
 case h_2=>cases h
 rename_i e bs t xs hb
 have hbr:=cn σ.hp b _ hb
 split at h
 case isFalse=>cases h
 rename_i hk
 cases h
 simp only[aV] at hk
 obtain⟨⟨⟨k1,k2⟩,k3⟩,k4⟩:=hk
 have hcb:c≠b:=fun e'=>by grind
 have hfr:=St.dE k1
 have hids:=kN.1 hfr.1
 have hdb:d≠b:=fun e'=>hfr.2.1 _ (e'▸hbr)
 have hdc:d≠c:=fun e'=>hfr.2.1 _ (e'▸hbk)
 have hdv:d∉v.ids:=hids.2.2 c _ hbk
 have h16:16≤d:=hfr.2.2
 obtain⟨r1,r2,g,cs,e',r3,r4,r5⟩:=hg.hw.cE c _ hbk
 obtain⟨s1,s2,s3,s4,ra,cap,s5,s6,s7⟩:=hg.hw.cE b _ hbr
 have hva:=mw k3
 obtain⟨s,q1,q2,q3,q4⟩:=AV.eV r5 r2 hva ac2
 have hs1:s.size=1:=AV.dJ q2▸rfl
 obtain⟨a1,c1,n1,t1,z1,z2,z3,z4,a',z5,z6⟩:=q4
 rw[s5] at z2;cases z2
 have za:a'=ra:=by
  rcases z6 with z6|z6
  ·grind
  grind [Addr.fW]
 rw[za] at z5
 have hlen:(xs.take len).length=len:=by grind
 have kp:bJ E w (E.tr b d (.slice ra len cap) (.arr (xs.take len).length t)) w:=⟨fun _ _=>rfl,fun _ h=>h⟩
 have hEh:∀i j,(i=d→j=b)→(i≠d→j=i)→∀x,(E.tr b d (.slice ra len cap) (.arr (xs.take len).length t)).has i x↔E.has j x:=by
  grind [Env.has,Env.tr]
 have src:∀(i:Nat)(k':aN),((((σ.hp.set b none).set d (some (.row e bs t (xs.take len)))).set c (some (.var tt u)))[i]? =some (some k'))→
  (i=c∧k'= .var tt u)∨(i=d∧k'= .row e bs t (xs.take len))∨(i≠c∧i≠d∧i≠b∧σ.hp[i]? =some (some k')):=by
  grind
 have gOf:∀(i:Nat)(k':aN),((((σ.hp.set b none).set d (some (.row e bs t (xs.take len)))).set c (some (.var tt u)))[i]? =some (some k'))→
  ∃j k0,σ.hp[j]? =some (some k0)∧(∀x,(E.tr b d (.slice ra len cap) (.arr (xs.take len).length t)).has i x↔E.has j x)∧(i=d→j=b)∧(i≠d→j=i):=by
  grind
 refine⟨E.tr b d (.slice ra len cap) (.arr (xs.take len).length t),⟨hg.len,?_,⟨?_,?_,?_,hg.hw.slt,hg.hw.fI kp,?_⟩,RD.mono kp (fun x hx=>Env.C9 (fun hd=>hids.2.1 x hx hd)) hg.df⟩,
  ⟨rfl,Tp.r rfl rfl,rfl,cL _,fun _ _ _=>rfl,fun _ h=>h,fun _ h=>Or.inl h,?_,fun i hi=>by grind [Env.tr]⟩⟩
 ·intro i x hx v hv
  exact RV.mono kp (Env.C9 (fun hd=>hids.1 i x hx hd)) (hg.tm i x hx v hv)
 ·intro i k' hi
  rcases src i k' hi with⟨rfl,rfl⟩|⟨rfl,rfl⟩|⟨e1,e2,e3,e4⟩
  ·have r5':=RC.mono kp (Env.C9 hdv) r5
   have hown:RC (E.tr b d (.slice ra len cap) (.arr (xs.take len).length t)) w (.own d) [.slice ra len cap]:=⟨by simp[Env.tr],ra,len,cap,by simp[Env.tr]⟩
   obtain⟨s',p1,p2,p3,p4⟩:=AV.kJ hown r5' r2 hva (fun s' hs'=>by grind) aQ
   rw[q1] at p1;cases p1
   have z5':List.take s.size (List.drop (tt.off p) cs.toList)= [.slice ra len cap]:=by grind
   have hcs:cs.toList.take (tt.off p)++[Value.slice ra len cap]++cs.toList.drop (tt.off p+s.size)=cs.toList:=by
    grind [jM,lh]
   rw[hcs] at p4
   exact⟨by simpa[Env.tr,Ne.symm hdc] using r1,k2,g,cs,e',by simpa[Env.tr,Ne.symm hdc] using r3,r4,p4⟩
  ·refine⟨by simp[Env.tr],by rw[hlen];exact cG (fM _ (by omega)) s2,by grind,s4,ra,cap,by simp[Env.tr,hlen],s6,?_⟩
   rcases s7 with⟨x1,x2,x3⟩|⟨g',c',x1,x2,x3,x4,x5,x6⟩
   ·grind [Env.tr]
   ·refine Or.inr ⟨g',c',by simpa[Env.tr] using x1,x2,x3,x4,by grind,?_⟩
    have:=aT.take (fun vs x=>Rel.len) len x6
    rw[List.take_take,qD (fM _ (by omega))] at this
    rw[hlen];trivial
  ·exact RB.mono kp (Env.C9 (by grind)) (fun _ _=>rfl) (fun _ g hp=>by simpa[Env.tr,e2] using hp) (hg.hw.cE i k' e4)
 ·intro i j k2 k3 g' hi hj g1 g2
  obtain⟨i',k4,e1,e2,e3,e4⟩:=gOf i k2 hi
  obtain⟨j',k5,f1,f2,f3,f4⟩:=gOf j k3 hj
  have hij:=hg.hw.dG i' j' k4 k5 g' e1 f1 ((e2 _).1 g1) ((f2 _).1 g2)
  grind
 ·intro i k' g' hi hgi hs
  obtain⟨i',k4,e1,e2,_,_⟩:=gOf i k' hi
  exact hg.hw.dh i' k4 g' e1 ((e2 _).1 hgi) hs
 ·intro i k' g' hi hgi
  obtain⟨i',k4,e1,e2,_,_⟩:=gOf i k' hi
  rcases(e2 _).1 (Or.inr hgi) with q|q
  ·exact Own.below hg.hw ⟨i',k4,e1,Or.inl q⟩
  ·exact hg.hw.qE i' k4 g' e1 q
 ·rintro g' ⟨i,k',hi,hgi⟩
  obtain⟨i',k4,e1,e2,_,_⟩:=gOf i k' hi
  exact Or.inl ⟨i',k4,e1,(e2 _).1 hgi⟩
def oL(c:Nat)(p:Path)(σ:St):Option St:=
 match ep σ.hp c with
 |
  some (.var tt v)=>match tt.sub p,v.get p with
  |
   some u,some _=>match v.set p (.eU u) with
   |some v'=>if v'.cp tt&&j5 tt p then some {σ with hp:=σ.hp.set c (some (.var tt v'))} else none
   |none=>none
  |_,_=>none
 |_=>none
theorem Wk.oL{gl:Ctx}{c:Nat}{p:Path}{σ σ':St}(h:Ax.oL c p σ=some σ'):Wk gl σ σ':=by
 intro E a w hg
 unfold Ax.oL at h
 split at h
 case h_2=>cases h
 rename_i tt v hc
 have hbk:=cn σ.hp c _ hc
 split at h
 case h_2=>cases h
 rename_i u x0 hu ac2
 split at h
 case h_2=>cases h
 rename_i v' aQ
 split at h
 case isFalse=>cases h
 rename_i hk
 cases h
 simp only[aV] at hk
 obtain⟨r1,r2,g,cs,e,r3,r4,r5⟩:=hg.hw.cE c _ hbk
 have hva:=mw hk.2
 obtain⟨s,q1,q2,q3,q4⟩:=AV.eV r5 r2 hva ac2
 rw[hu] at q1;cases q1
 have hj:RC E w (.eU u) (List.take u.size (List.drop (tt.off p) cs.toList)):=by
  refine⟨by grind,fun x hx=>RC.one r5 x (List.mem_of_mem_drop (List.mem_of_mem_take hx))⟩
 obtain⟨s',p1,p2,p3,p4⟩:=AV.kJ hj r5 r2 hva (fun s' hs'=>by grind) aQ
 rw[hu] at p1;cases p1
 have hcs:cs.toList.take (tt.off p)++List.take u.size (List.drop (tt.off p) cs.toList)++cs.toList.drop (tt.off p+u.size)=cs.toList:=by
  grind [lh]
 rw[hcs] at p4
 have hw:=hg.hw.write (w':=w) (k':=.var tt v') hbk rfl (fun _ _=>rfl) ⟨r1,hk.1,g,cs,e,r3,r4,p4⟩
 exact⟨E,hg.carry ⟨fun _ _=>rfl,fun _ h=>h⟩ (fun _ _=>⟨rfl,rfl,rfl⟩) hw,{Ext.refl (md:=gl.md) (Own σ.hp E) E w with own:=fun g hg'=>Or.inl (Own.set hbk hg')}⟩
inductive Gh where
 |zj (ts bs:List Nat)
 |Fx (s:Nat) (t:Ty)
 |Bb (b:Nat)
 |freeze (b:Nat) (t:Ty)
 |Ye (b b':Nat)
 |xh (s b:Nat) (e:TypeId) (bs:Nat) (t:Ty)
 |rp (c:Nat) (p:Path) (b:Nat) (e:TypeId) (bs:Nat) (t:Ty)
 |ky (b:Nat)
 |EA (b:Nat)
 |FF (b:Nat) (e:TypeId)
 |oJ (b:Nat)
 |lv (b:Nat)
 |np (c:Nat) (p:Path) (d:Nat)
 |eJ (b:Nat)
 |rY (b:Nat)
 |oL (c:Nat) (p:Path)
def Gh.go(σ:St):Gh→Option St
 | .zj ts bs=>some ⟨qR ts 0 σ.tm,vj bs 0 σ.hp,σ.df⟩
 |
  .Fx s t=>match σ.tm[s]? with
  |
   some x=>match x.bK t with
   |some y=>some {σ with tm:=σ.tm.set s (.val t y)}
   |none=>none
  |none=>none
 |
  .Bb b=>match σ.hp[b]? with
  |
   some (some (.var t v))=>match v.bK t with
   |some y=>some {σ with hp:=σ.hp.set b (some (.var t (.val t y)))}
   |none=>none
  |
   some (some (.bU e bs t xs i v))=>match v.bK t with
   |some y=>some {σ with hp:=σ.hp.set b (some (.bU e bs t xs i (.val t y)))}
   |none=>none
  |some (some (.lB k v rest (some _)))=>some {σ with hp:=σ.hp.set b (some (.lB k v rest none))}
  |_=>none
 | .freeze b t=>Ax.freeze b t σ
 | .Ye b b'=>rename b b' σ
 | .xh s b e bs t=>Ax.xh s b e bs t σ
 | .rp c p b e bs t=>Ax.rp c p b e bs t σ
 | .ky b=>Ax.ky b σ
 | .EA b=>Ax.EA b σ
 | .FF b e=>Ax.FF b e σ
 | .oJ b=>Ax.oJ b σ
 | .lv b=>Ax.lv b σ
 | .np c p d=>Ax.np c p d σ
 | .eJ b=>nH b σ
 | .rY b=>l7 b σ
 | .oL c p=>Ax.oL c p σ
def NJ:List Gh→St→Option St
 |[],σ=>some σ
 |
  g::l,σ=>match g.go σ with
  |some σ'=>NJ l σ'
  |none=>none
theorem Gh.ok{gl:Ctx}{g:Gh}{σ σ':St}(h:g.go σ=some σ'):Wk gl σ σ':=by
 cases g with
 |zj ts bs=>cases h;exact Wk.zj gl σ ts bs
 |
  Fx s t=>
  grind [Gh.go,Wk.Fx]
 |
  Bb b=>
  grind [Gh.go,Wk.Bb,Wk.S0,Wk.mcl]
 |freeze b t=>exact Wk.freeze h
 |Ye b b'=>exact Wk.rename h
 |xh s b e bs t=>exact Wk.xh h
 |rp c p b e bs t=>exact Wk.rp h
 |ky b=>exact Wk.ky h
 |EA b=>exact Wk.EA h
 |FF b e=>exact Wk.FF h
 |oJ b=>exact Wk.oJ h
 |lv b=>exact Wk.lv h
 |np c p d=>exact Wk.np h
 |eJ b=>exact Wk.nH h
 |rY b=>exact Wk.l7 h
 |oL c p=>exact Wk.oL h
theorem Bf{gl:Ctx}:∀{l:List Gh}{σ σ':St},NJ l σ=some σ'→Wk gl σ σ'
 |[],σ,σ',h=>by cases h;exact Wk.refl gl σ
 |
  g::l,σ,σ',h=>by
  simp only[NJ] at h
  split at h
  ·rename_i σ1 h1;exact(Gh.ok h1).trans (Bf h)
  ·cases h
section
variable{P:Program} {gl:Ctx} {σ:St} {Q:fE→St→Prop}
theorem cP.wk{c:Code}{σ':St}(h:Wk gl σ σ')(hr:cP P gl c σ' Q):cP P gl c σ Q:=by
 intro E a w hg
 obtain⟨E1,g1,x1⟩:=h E a w hg
 refine wpIn_mono (hr E1 a w g1) ?_
 rintro ex a2 w2 ⟨x,σ2,E2,h1,h2,h3,h4⟩
 exact⟨x,σ2,E2,h1,h2,h3,x1.trans h4⟩
theorem cP.post{c:Code}{Q':fE→St→Prop}(hr:cP P gl c σ Q')(hn:∀e σ',e≠.normal→Q' e σ'→Q e σ')(h:∀σ',Q' .normal σ'→∃σ2,Wk gl σ' σ2∧Q .normal σ2):cP P gl c σ Q:=by
 intro E a w hg
 refine wpIn_mono (hr E a w hg) ?_
 rintro ex a2 w2 ⟨x,σ2,E2,h1,h2,h3,h4⟩
 by_cases e:x= .normal
 ·subst e
  obtain⟨σ3,h5,h6⟩:=h σ2 h2
  obtain⟨E3,g3,x3⟩:=h5 E2 a2 w2 h3
  exact⟨.normal,σ3,E3,by cases ex<;>first|exact h1|exact h1.elim,h6,g3,h4.trans x3⟩
 ·exact⟨x,σ2,E2,h1,hn x σ2 e h2,h3,h4⟩
theorem cP.gh{c:Code}(l:List Gh){σ':St}(h:NJ l σ=some σ')(hr:cP P gl c σ' Q):cP P gl c σ Q:=cP.wk (Bf h) hr
end
structure Cl(gl:Ctx)(Q:fE→St→Prop):Prop where
 n:∀σ σ',Wk gl σ σ'→Q .normal σ'→Q .normal σ
 e:∀i σ σ',Wk gl σ σ'→Q (.exit i) σ'→Q (.exit i) σ
theorem bP{α:Type}{p:Prop}[Decidable p]{k:Option α}{r:α}(h:(if p then k else none)=some r):p∧k=some r:=by
 grind
theorem bind_some{α β:Type}{x:Option α}{f:α→Option β}{r:β}(h:x.bind f=some r):∃y,x=some y∧f y=some r:=by
 cases x<;>grind
inductive cQ(β ρ:Type) where
 |brk (b:β)
 |ret (r:ρ)
def l9{α:Type}:List (Nat×α)→List α→List α
 |[],l=>l
 |(i,x)::m,l=>l9 m (l.set i x)
def gD:Nat:=18446744073709551616
abbrev aZ(n:Int):Int:=IntKind.i64.wrap n
def nth(t:Ty)(xs:List t.den)(i:Int):t.den:=xs.getD i.toNat t.aD
end Go.Ax
