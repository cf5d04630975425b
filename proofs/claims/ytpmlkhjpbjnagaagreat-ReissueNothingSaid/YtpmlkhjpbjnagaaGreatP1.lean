/- part -/
import Derived.Test.YtpmlkhjpbjnagaaGreatUO
import Derived.Test.YtpmlkhjpbjnagaaGreatA5
import Derived.Test.YtpmlkhjpbjnagaaGreatF5
noncomputable section
namespace Go.Proofs.YtpmlkhjpbjnagaaGreat
open Go.Ax
theorem hB:aG=140737488355328:=rfl
theorem AY{l:Zg}{i j:Nat}(hi:i<l.length)(hj:j<l.length):lF (i:Int) (j:Int) l=some (decide (l[i]<l[j]),l):=by
 have h1:(i:Int)<(l.length:Int):=by omega
 have h2:(j:Int)<(l.length:Int):=by omega
 simp only[lF,dx,h1,h2,bU,dg (t:=.int .i64) hi,dg (t:=.int .i64) hj]
theorem swap_eq{l:Zg}{i j:Nat}(hi:i<l.length)(hj:j<l.length):∃l',j5 (i:Int) (j:Int) l=some l'∧l'.Perm l:=by
 have h1:(i:Int)<(l.length:Int):=by omega
 have h2:(j:Int)<(l.length:Int):=by omega
 refine⟨(l.set i l[j]).set j l[i],?_,List.set_set_perm hi hj⟩
 simp only[j5,dx,h1,h2,cj,bU,dg (t:=.int .i64) hi,dg (t:=.int .i64) hj,ew]
theorem upL:∀(n c:Nat)(d:Zg),c<n→c<d.length→d.length≤aG→W (ph n ((c:Int),d)) (CT (fun d'=>d'.Perm d) fun _=>False):=by
 intro n
 induction n with
 |zero=>intro c d h;omega
 |
  succ n ih=>
  intro c d hn hc hb
  unfold ph at ih ⊢
  rw[aN]
  generalize aK _ n=rec at ih ⊢
  have hB:=hB
  dsimp only
  cases c with
  |
   zero=>
   rw[aA (by decide)]
   exact oN.2 (i4.2 (List.Perm.refl _))
  |
   succ c=>
   have e1:aZ (((c+1:Nat):Int) -1)=(c:Int):=by rw[fT (by omega) (by omega)];omega
   have e2:aZ (Int.tdiv (c:Int) 2)=((c / 2:Nat):Int):=by
    have:Int.tdiv (c:Int) 2=((c / 2:Nat):Int):=rfl
    rw[this,fT (by omega) (by omega)]
   rw[e1,e2,aC (by rw[mo];omega),AY hc (by omega),aL]
   dsimp only
   by_cases hl:d[c+1]<d[c / 2]
   ·rw[aC (by simp[hl])]
    obtain⟨l',e,p⟩:=swap_eq (l:=d) (i:=c / 2) (j:=c+1) (by omega) hc
    rw[e,aL]
    exact(ih (c / 2) l' (by omega) (by rw[p.length_eq];omega) (by rw[p.length_eq];exact hb)).ct (fun _ h=>h.trans p) fun _ h=>h
   ·rw[aA (by simp[hl])]
    exact oN.2 (i4.2 (List.Perm.refl _))
theorem G9{a:Int}{l:Zg}(h:(l.length+1)*8≤aG):∃q,qK a l=some q∧q.Perm (a::l):=by
 have hB:=hB
 have e1:Ap a l=some (l++[a]):=aA h
 have e2:qJ (l++[a])=some (((l++[a]).length:Int),l++[a]):=rfl
 have hl:(l++[a]).length=l.length+1:=by rw[ep];rfl
 have e3:aZ (((l++[a]).length:Int) -1)=(l.length:Int):=by rw[hl,fT (by omega) (by omega)];omega
 obtain⟨o,ho,hp⟩:=upL eP l.length (l++[a]) (DA (by omega)) (by omega) (by omega)
 unfold qK
 rw[e1,aL,e2,aL]
 dsimp only
 rw[e3]
 unfold Ao
 rw[ho]
 cases o with
 |bA d=>exact⟨d,rfl,(show d.Perm (l++[a]) from hp).trans (List.perm_append_singleton a l)⟩
 |ret r=>exact(show False from hp).elim
theorem aac:∀(m:Nat)(q:Int)(o p:Nat)(r:Zg),o -p<m→p≤o→o≤r.length→r.length≤aG→
 W (k9 m (q,(o:Int),(p:Int),r)) (CT (fun u=>u.2.2.Perm r) fun _=>False):=by
 intro m
 induction m with
 |zero=>intro q o p r h;omega
 |
  succ m ih=>
  intro q o p r hm hpo hor hb
  unfold k9 at ih ⊢
  rw[aN]
  generalize aK _ m=rec at ih ⊢
  have hB:=hB
  dsimp only
  have e0:aZ ((2:Int)*(p:Int))=((2*p:Nat):Int):=by rw[fT (by omega) (by omega)];omega
  have e1:aZ (((2*p:Nat):Int)+1)=((2*p+1:Nat):Int):=by rw[fT (by omega) (by omega)];omega
  rw[e0,e1]
  by_cases h1:o≤2*p+1
  ·rw[aA (show decide ((o:Int)≤((2*p+1:Nat):Int))=true by simp only[mo];omega),aL,aA rfl]
   exact oN.2 (i4.2 (List.Perm.refl _))
  ·rw[aC (show¬decide ((o:Int)≤((2*p+1:Nat):Int))=true by simp only[mo];omega),aL,gn (by omega),aI]
   dsimp only
   have e2:aZ (((2*p+1:Nat):Int)+1)=((2*p+2:Nat):Int):=by rw[fT (by omega) (by omega)];omega
   rw[e2]
   have key:∀j:Nat,p<j→j<o→W (Option.bind (lF (j:Int) (p:Int) r) fun⟨m',n⟩=>if(!m')=true then(some (.bA (q,(p:Int),n))) else(Option.bind (j5 (p:Int) (j:Int) n) fun y9=>rec (q,(o:Int),(j:Int),y9))) (CT (fun u:Int×Int×Zg=>u.2.2.Perm r) fun _:Bool×Zg=>False):=by
    intro j hj1 hj2
    rw[AY (by omega) (by omega),aL]
    dsimp only
    split
    ·exact oN.2 (i4.2 (List.Perm.refl _))
    ·obtain⟨l',e,pm⟩:=swap_eq (l:=r) (i:=p) (j:=j) (by omega) (by omega)
     rw[e,aL]
     exact(ih q o j l' (by omega) (by omega) (by rw[pm.length_eq];omega) (by rw[pm.length_eq];exact hb)).ct (fun _ h=>h.trans pm) fun _ h=>h
   by_cases h2:2*p+2<o
   ·rw[aA (show decide (((2*p+2:Nat):Int)<(o:Int))=true by simp only[mo];omega),AY (by omega) (by omega),aL]
    dsimp only
    split
    ·rw[aI];exact key _ (by omega) h2
    ·rw[aI];exact key _ (by omega) (by omega)
   ·rw[aC (show¬decide (((2*p+2:Nat):Int)<(o:Int))=true by simp only[mo];omega),aI]
    exact key _ (by omega) (by omega)
theorem Vz{l:Zg}(hne:l≠[])(hb:l.length≤aG):∃x q,nB l=some (x,q)∧(x::q).Perm l:=by
 have hB:=hB
 have hpos:0<l.length:=List.length_pos_iff.2 hne
 obtain⟨n,hn⟩:∃n,l.length=n+1:=⟨l.length -1,by omega⟩
 have e2:qJ l=some ((l.length:Int),l):=rfl
 have e3:aZ ((l.length:Int) -1)=(n:Int):=by rw[hn,fT (by omega) (by omega)];omega
 obtain⟨l',e4,p4⟩:=swap_eq (l:=l) (i:=0) (j:=n) (by omega) (by omega)
 have hl':l'.length=n+1:=by rw[p4.length_eq,hn]
 obtain⟨o,ho,hp⟩:=aac eP 0 n 0 l' (DA (by omega)) (by omega) (by omega) (by omega)
 cases o with
 |ret r=>exact(show False from hp).elim
 |
  bA d=>
  obtain⟨d1,d2,c⟩:=d
  have pc:c.Perm l':=hp
  have hc:c.length=n+1:=by rw[pc.length_eq,hl']
  have e5:tK 0 (n:Int) l'=some (decide (d1<d2),c):=by
   unfold tK
   have ho':k9 eP ((0:Int),(n:Int),0,l')=some (.bA (d1,d2,c)):=ho
   rw[ho',aI]
  have e6:tL c=some (c[n]'(by omega),c.take n):=by
   have h7:aZ ((c.length:Int) -1)=(n:Int):=by rw[hc,fT (by omega) (by omega)];omega
   have h8:(n:Int)<(c.length:Int):=by omega
   have h9:(n:Int)≤(c.length:Int):=by omega
   simp only[tL,h7,dx,h8,h9,bU,dg (t:=.int .i64) (show n<c.length by omega),ew,Nat.sub_zero]
  refine⟨c[n]'(by omega),c.take n,?_,?_⟩
  ·unfold nB
   rw[e2,aL]
   dsimp only
   rw[e3]
   have e4':j5 (0:Int) (n:Int) l=some l':=e4
   rw[e4',aL,e5,aL]
   dsimp only
   rw[e6,aL]
  ·have h:c.take n++[c[n]'(by omega)]=c:=by
    have:=lM n c
    rw[kA (show n<c.length by omega),pJ (by omega)] at this
    exact this
   have q:=List.perm_append_singleton (c[n]'(by omega)) (c.take n)
   rw[h] at q
   exact q.symm.trans (pc.trans p4)
theorem oG{α:Type}:∀{l:List α}{i:Nat}(h:i<l.length),(l[i]::l.eraseIdx i).Perm l
 |x::l,0,_=>List.Perm.refl _
 |
  x::l,i+1,h=>by
  have h':i<l.length:=by rw[d9] at h;omega
  exact(List.Perm.swap x l[i] _).trans ((oG h').cons x)
def nd(g:ef)(h:Int):Zu:=bE (aQ (.int .i64) (.map (.int .i64) .bool) h (bE g.2.1))
def ks(g:ef)(h:Int):Zg:=(nd g h).map (·.1)
def ka(e:qS)(k:Zg)(f:Int):qS:=e.mapIdx fun j row=>if(j:Int)∈k then row++[f] else row
theorem kT(e:qS)(k:Zg)(f:Int):(ka e k f).length=e.length:=by unfold ka;rw[List.length_mapIdx]
theorem Iv(e:qS)(f:Int):ka e [] f=e:=by
 refine List.ext_getElem (kT e [] f) fun j h1 h2=>?_
 simp only[ka,List.getElem_mapIdx,List.not_mem_nil,cT]
theorem CP{e:qS}{k k':Zg}{f:Int}(h:∀x,x∈k↔x∈k'):ka e k f=ka e k' f:=by
 unfold ka
 congr 1
 funext j row
 simp only[h]
theorem Iw{e:qS}{k:Zg}{f:Int}{x:Nat}(hx:x<e.length)(hk:(x:Int)∉k):ka (e.set x (e.getD x []++[f])) k f=ka e ((x:Int)::k) f:=by
 refine List.ext_getElem (by rw[kT,kT,cj]) fun j h1 h2=>?_
 have hj:j<e.length:=by rw[kT] at h2;exact h2
 simp only[ka,List.getElem_mapIdx,List.getElem_set,fJ]
 by_cases hxj:x=j
 ·subst hxj
  rw[aC hk,aA rfl,aA (Or.inl rfl),pF,mq hx,Option.getD_some]
 ·have hne:¬((j:Int)=(x:Int)):=by omega
  simp only[aC hxj,hne,false_or]
theorem aad(f b c:Int)(d:ef):∀(n:Nat)(a:Zu)(e:qS),a.length<n→(a.map (·.1)).Nodup→(∀x∈a.map (·.1),0≤x∧x<(e.length:Int))→(∀x:Nat,(x:Int)∈a.map (·.1)→((e.getD x []).length+1)*8≤aG)→
 lD n (f,b,c,d,e,a)=some (.bA (b,c,d,ka e (a.map (·.1)) f)):=by
 intro n
 induction n with
 |zero=>intro a e h;omega
 |
  succ n ih=>
  intro a e hn hd hr hs
  unfold lD at ih ⊢
  rw[aN]
  generalize aK _ n=rec at ih ⊢
  dsimp only
  cases hA:a with
  |
   nil=>
   rw[aA (show List.isEmpty ([]:Zu)=true from rfl)]
   simp only[List.map_nil,Iv]
  |
   cons y l=>
   rw[←hA,aC (by rw[hA];simp)]
   refine tO (by rw[hA];simp) fun i hi=>?_
   have p:=oG hi
   have pm:=p.map (·.1)
   have hd':((a[i]::a.eraseIdx i).map (·.1)).Nodup:=pm.nodup_iff.2 hd
   rw[d8,mr] at hd'
   have hmem:a[i].1∈a.map (·.1):=List.mem_map_of_mem (iQ hi)
   obtain⟨h0,h1⟩:=hr _ hmem
   obtain⟨x,hx⟩:∃x:Nat,a[i].1=(x:Int):=⟨a[i].1.toNat,by omega⟩
   have hxl:x<e.length:=by omega
   rw[hx] at h0 h1 hd' hmem ⊢
   have hs1:=hs x hmem
   have hsz:(List.length (List.getD e x [])+List.length [f])*8≤aG:=hs1
   simp only[h0,h1,bU,ew,aA hsz]
   rw[ih]
   ·rw[Iw hxl hd'.1]
    refine congrArg (fun z=>some (cH.bA (b,c,d,z))) (CP fun z=>?_)
    have:=(pm.mem_iff (a:=z))
    rw[d8,hx] at this
    exact this
   ·have:=p.length_eq
    rw[d9] at this
    omega
   ·exact hd'.2
   ·intro z hz
    rw[cj]
    exact hr z (pm.mem_iff.1 (by rw[d8];exact d7 _ hz))
   ·intro z hz
    have hne:x≠z:=fun h=>hd'.1 (h▸hz)
    rw[pF,List.getElem?_set_ne hne,←pF]
    exact hs z (pm.mem_iff.1 (by rw[d8];exact d7 _ hz))
structure GG(g:ef)(m:Nat):Prop where
 many:g.1=(m:Int)
 small:m≤1000000
 nodup:∀h,(ks g h).Nodup
 range:∀h x,x∈ks g h→0≤x∧x<(m:Int)
def us(g:ef)(m e:Nat):qS:=(List.range m).map fun j:Nat=>((List.range e).filter fun h:Nat=>decide ((j:Int)∈ks g (h:Int))).map fun h:Nat=>(h:Int)
theorem rZ(g:ef)(m e:Nat):(us g m e).length=m:=by simp[us]
theorem RA(g:ef)(m e:Nat):ka (us g m e) (ks g (e:Int)) (e:Int)=us g m (e+1):=by
 refine List.ext_getElem (by rw[kT,rZ,rZ]) fun j h1 h2=>?_
 simp only[ka,us,List.getElem_mapIdx,List.getElem_map,List.getElem_range,List.range_succ,List.filter_append,oq,pI,List.filter_nil]
 by_cases h:(j:Int)∈ks g (e:Int)
 ·simp[h]
 ·simp[h]
theorem RE(g:ef)(m:Nat):us g m 0=List.replicate m []:=by
 refine List.ext_getElem (by rw[rZ,jC]) fun j h1 h2=>?_
 simp[us]
theorem VA{g:ef}{m e x:Nat}:((us g m e).getD x []).length≤e:=by
 rw[pF]
 by_cases h:x<(us g m e).length
 ·rw[mq h,Option.getD_some]
  simp only[us,List.getElem_map,im]
  exact cI (uD _ _) (by simp)
 ·rw[List.getElem?_eq_none (by omega)]
  simp
theorem aae{g:ef}{m:Nat}(hg:GG g m):∀(n e:Nat),m -e<n→e≤m→lE n ((m:Int),(e:Int),g,us g m e)=some (.bA (us g m m)):=by
 intro n
 have hB:=hB
 have hsm:=hg.small
 induction n with
 |zero=>intro e h;omega
 |
  succ n ih=>
  intro e hn he
  unfold lE at ih ⊢
  rw[aN]
  generalize aK _ n=rec at ih ⊢
  dsimp only
  by_cases h:e<m
  ·rw[aA (show decide ((e:Int)<(m:Int))=true by simp only[mo];omega)]
   have key:=aad (e:Int) (m:Int) (e:Int) g ((nd g (e:Int)).length+1) (nd g (e:Int)) (us g m e) (by omega) (hg.nodup _) (fun x hx=>by rw[rZ];exact hg.range _ x hx) (fun x _=>by have:=VA (g:=g) (m:=m) (e:=e) (x:=x);omega)
   unfold nd at key
   rw[key,aI]
   dsimp only
   rw[show aZ ((e:Int)+1)=((e+1:Nat):Int) from bG (by omega),show ka (us g m e) ((bE (aQ (.int .i64) (.map (.int .i64) .bool) (e:Int) (bE g.2.1))).map (·.1)) (e:Int)=us g m (e+1) from RA g m e]
   exact ih (e+1) (by omega) (by omega)
  ·have:e=m:=by omega
   subst this
   rw[gn (by omega)]
theorem Mr{g:ef}{m:Nat}(hg:GG g m):Ey g=some (us g m m):=by
 have hB:=hB
 have hsm:=hg.small
 unfold Ey
 rw[hg.many,eN m,aA (jU _),aA (by omega),ew,←RE g]
 have:=aae hg (m+1) 0 (by omega) (by omega)
 have h0:lE (m+1) ((m:Int),0,g,us g m 0)=some (.bA (us g m m)):=this
 rw[h0,aI]
theorem gB:∀(m:Nat)(l:Zg),l.Nodup→(∀x∈l,0≤x∧x<(m:Int))→l.length≤m:=by
 intro m
 induction m with
 |
  zero=>
  intro l _ h
  cases l with
  |nil=>exact dc _
  |cons x l=>have:=h x (dE ..);omega
 |
  succ m ih=>
  intro l hd h
  by_cases hm:(m:Int)∈l
  ·have h1:=ih (l.erase (m:Int)) (hd.erase _) fun x hx=>by
    have:=(hd.mem_erase_iff).1 hx
    have:=h x this.2
    omega
   have h2:=List.length_erase_of_mem hm
   have h3:=List.length_pos_of_mem hm
   omega
  ·have:=ih l hd fun x hx=>by
    have h1:=h x hx
    have:x≠(m:Int):=fun e=>hm (e▸hx)
    omega
   omega
def ET(g:ef)(out:Zg)(h:Int):Nat:=((ks g h).filter fun x=>decide (x∉out)).length
theorem Ha(g:ef)(h:Int):ET g [] h=(ks g h).length:=by simp[ET]
theorem VB{g:ef}{m:Nat}(hg:GG g m)(out:Zg)(h:Int):ET g out h≤m:=
 cI (uD _ _) (gB m _ (hg.nodup h) (hg.range h))
theorem EU:∀(l:Zg)(out:Zg)(x:Int),l.Nodup→x∉out→
 (l.filter fun z=>decide (z∉out)).length=(l.filter fun z=>decide (z∉out++[x])).length+(if x∈l then 1 else 0):=by
 intro l
 induction l with
 |nil=>intro out x _ _;rfl
 |
  cons y l ih=>
  intro out x hd hx
  rw[mr] at hd
  have:=ih out x hd.2 hx
  by_cases hyx:y=x
  ·subst hyx
   rw[aC hd.1] at this
   rw[List.filter_cons_of_pos (by simpa using hx),List.filter_cons_of_neg (by simp),aA (dE ..),d9,this]
  ·have hmem:(x∈y::l)=(x∈l):=by simp[Ne.symm hyx]
   simp only[hmem]
   by_cases hyo:y∈out
   ·rw[List.filter_cons_of_neg (by simp[hyo]),List.filter_cons_of_neg (by simp[hyo])]
    exact this
   ·rw[List.filter_cons_of_pos (by simp[hyo]),List.filter_cons_of_pos (by simp[hyo,hyx]),d9,d9,this]
    omega
theorem Hb{g:ef}{m:Nat}(hg:GG g m){out:Zg}{x h:Int}(hx:x∉out):ET g out h=ET g (out++[x]) h+if x∈ks g h then 1 else 0:=
 EU _ _ _ (hg.nodup h) hx
abbrev Yc(y:YC):ZO:=fun d=>gG y d.1 d.2.1 d.2.2.1 d.2.2.2.1 d.2.2.2.2.1
theorem aaf(y:YC)(x:Int)(acc:Zg)(h:(acc.length+1)*8≤aG):gG y x y 0 (y.gs 1) acc=some (true,y,0,y.gs 1,acc++[x]):=by
 unfold gG
 rw[fh]
 simp only[bU,d9,lO,dV,aA h,aL,Nat.beq]
structure L3(g:ef)(m a:Nat)(c e:Zg):Prop where
 len:c.length=m
 num:∀h<a,c[h]? =some ((ks g (h:Int)).length:Int)
 n6:e.Nodup
 mem:∀x,x∈e↔∃h:Nat,h<a∧x=(h:Int)∧(ks g (h:Int)).length=0
theorem aag{g:ef}{m:Nat}(hg:GG g m)(U:qS):∀(n a:Nat)(c e:Zg),m -a<n→a≤m→L3 g m a c e→
 ∃c' e',L3 g m m c' e'∧∀(y:YC)(k:Zg),fb y.l (Yc y) n (y.l,g,U,(m:Int),(a:Int),y,0,y.gs 1,k,c,e)=some (.bA (y.l,U,y,0,y.gs 1,k,c',e')):=by
 intro n
 have hB:=hB
 have hsm:=hg.small
 induction n with
 |zero=>intro a c e h;omega
 |
  succ n ih=>
  intro a c e hn ha hL
  have hstep:∀y k,fb y.l (Yc y) (n+1) (y.l,g,U,(m:Int),(a:Int),y,0,y.gs 1,k,c,e)=_:=fun y k=>by unfold fb;rw[aN]
  by_cases h:a<m
  ·have hl:a<c.length:=by rw[hL.len];exact h
   have d1:decide ((a:Int)<(m:Int))=true:=by simp only[mo];omega
   have d2:((a:Int)<(c.length:Int))=True:=by simp only[eq_iff_iff,iff_true];omega
   have e0:(List.length (bE (aQ (.int .i64) (.map (.int .i64) .bool) (a:Int) (bE g.2.1))):Int)=((ks g (a:Int)).length:Int):=by simp[ks,nd]
   generalize hc2:c.set a ((ks g (a:Int)).length:Int)=c2
   have hc2l:c2.length=m:=by rw[←hc2,cj,hL.len]
   have anr:nth (.int .i64) c2 (a:Int)=((ks g (a:Int)).length:Int):=by
    rw[dg (t:=.int .i64) (show a<c2.length by omega)]
    subst hc2
    exact List.getElem_set_self ..
   have d3:((a:Int)<(c2.length:Int))=True:=by simp only[eq_iff_iff,iff_true];omega
   have hnum:∀z<a+1,c2[z]? =some ((ks g (z:Int)).length:Int):=by
    intro z hz
    subst hc2
    by_cases hza:z=a
    ·subst hza
     rw[List.getElem?_set_self hl]
    ·rw[List.getElem?_set_ne (Ne.symm hza)]
     exact hL.num z (by omega)
   have hw:aZ ((a:Int)+1)=((a+1:Nat):Int):=bG (by omega)
   by_cases hz:(ks g (a:Int)).length=0
   ·have hle:e.length≤m:=gB m e hL.n6 fun x hx=>by
     obtain⟨h',h1,h2,_⟩:=(hL.mem x).1 hx
     omega
    obtain⟨e2,he2,p⟩:=G9 (a:=(a:Int)) (l:=e) (by omega)
    have hna:(a:Int)∉e:=fun hm=>by
     obtain⟨h',h1,h2,_⟩:=(hL.mem _).1 hm
     omega
    obtain⟨c',e',hL',hf⟩:=ih (a+1) c2 e2 (by omega) (by omega) ⟨hc2l,hnum,p.nodup_iff.2 (List.nodup_cons.2 ⟨hna,hL.n6⟩),fun x=>by
     rw[p.mem_iff,fJ,hL.mem]
     constructor
     ·rintro(rfl|⟨h',h1,h2,h3⟩)
      ·exact⟨a,by omega,rfl,hz⟩
      ·exact⟨h',by omega,h2,h3⟩
     ·rintro⟨h',h1,h2,h3⟩
      by_cases hh:h'=a
      ·subst hh;exact Or.inl h2
      ·exact Or.inr ⟨h',by omega,h2,h3⟩⟩
    refine⟨c',e',hL',fun y k=>?_⟩
    rw[hstep]
    have hf:=hf y k
    unfold fb at hf
    have d4:decide (((ks g (a:Int)).length:Int)=(0:Int))=true:=by rw[hz];rfl
    simp only[d1,dx,d2,e0,ew,hc2,d3,anr,d4,bU,he2,aL,hw]
    exact hf
   ·obtain⟨c',e',hL',hf⟩:=ih (a+1) c2 e (by omega) (by omega) ⟨hc2l,hnum,hL.n6,fun x=>by
     rw[hL.mem]
     constructor
     ·rintro⟨h',h1,h2,h3⟩
      exact⟨h',by omega,h2,h3⟩
     ·rintro⟨h',h1,h2,h3⟩
      by_cases hh:h'=a
      ·subst hh;exact absurd h3 hz
      ·exact⟨h',by omega,h2,h3⟩⟩
    refine⟨c',e',hL',fun y k=>?_⟩
    rw[hstep]
    have hf:=hf y k
    unfold fb at hf
    have d4:decide (((ks g (a:Int)).length:Int)=(0:Int))=false:=dz (by omega)
    simp only[d1,dx,d2,e0,ew,hc2,d3,anr,d4,bU,dr,cT,hw]
    exact hf
  ·have:a=m:=by omega
   subst this
   refine⟨c,e,hL,fun y k=>?_⟩
   rw[hstep]
   have d1:decide ((a:Int)<(a:Int))=false:=dz (by omega)
   simp only[d1,dr,cT]
structure L13(m:Nat)(row:Zg)(op0:Nat→Nat)(q0:Zg)(a:Nat)(d e:Zg):Prop where
 len:d.length=m
 num:∀h<m,d[h]? =some ((op0 h:Int) -if(h:Int)∈row.take a then 1 else 0)
 n6:e.Nodup
 mem:∀x,x∈e↔x∈q0∨∃h:Nat,x=(h:Int)∧(h:Int)∈row.take a∧op0 h=1
theorem VD{g:ef}{m:Nat}(hg:GG g m)(U:qS)(row:Zg)(op0:Nat→Nat)(q0:Zg)
 (hrd:row.Nodup) (hrr:∀x∈row,∃h:Nat,h<m∧x=(h:Int)∧1≤op0 h∧x∉q0) (hop:∀h,op0 h≤m) (hq:∀x∈q0,0≤x∧x<(m:Int)):
 ∀(n a:Nat)(d e:Zg),row.length -a<n→a≤row.length→L13 m row op0 q0 a d e→
 ∃d' e',L13 m row op0 q0 row.length d' e'∧∀(y:YC)(k:Zg),eE y.l (Yc y) n (y.l,U,row,(row.length:Int),(a:Int),y,0,y.gs 1,d,k,e)=some (.bA (y.l,U,y,0,y.gs 1,d',k,e')):=by
 intro n
 have hB:=hB
 have hsm:=hg.small
 have hrl:row.length≤m:=gB m row hrd fun x hx=>by obtain⟨h,h1,h2,_⟩:=hrr x hx;omega
 induction n with
 |zero=>intro a d e h;omega
 |
  succ n ih=>
  intro a d e hn ha hL
  have hstep:∀y k,eE y.l (Yc y) (n+1) (y.l,U,row,(row.length:Int),(a:Int),y,0,y.gs 1,d,k,e)=_:=fun y k=>by unfold eE;rw[aN]
  by_cases h:a<row.length
  ·have d2:((a:Int)<(row.length:Int))=True:=by simp only[eq_iff_iff,iff_true];omega
   obtain⟨u,hu,hru,hu1,huq⟩:=hrr row[a] (iQ h)
   have hn1:nth (.int .i64) row (a:Int)=(u:Int):=by rw[dg (t:=.int .i64) h,hru]
   have hul:u<d.length:=by rw[hL.len];exact hu
   have hnt:(u:Int)∉row.take a:=fun hm=>by
    have h1:=lM a row
    rw[←h1,List.nodup_append] at hrd
    have h2:(u:Int)∈row.drop a:=by rw[kA h,hru];exact dE ..
    exact hrd.2.2 _ hm _ h2 rfl
   have hdu:nth (.int .i64) d (u:Int)=(op0 u:Int):=by
    rw[dg (t:=.int .i64) hul]
    have:=hL.num u hu
    rw[mq hul,aC hnt,Int.sub_zero] at this
    exact iR this
   have hw1:aZ ((op0 u:Int) -1)=(op0 u:Int) -1:=fT (by omega) (by have:=hop u;omega)
   have d3:((u:Int)<(d.length:Int))=True:=by simp only[eq_iff_iff,iff_true];omega
   generalize hc2:d.set u ((op0 u:Int) -1)=d2'
   have hc2l:d2'.length=m:=by rw[←hc2,cj,hL.len]
   have d4:((u:Int)<(d2'.length:Int))=True:=by simp only[eq_iff_iff,iff_true];omega
   have anr:nth (.int .i64) d2' (u:Int)=(op0 u:Int) -1:=by
    rw[dg (t:=.int .i64) (show u<d2'.length by omega)]
    subst hc2
    exact List.getElem_set_self ..
   have htk:∀z:Int,z∈row.take (a+1)↔z∈row.take a∨z=(u:Int):=fun z=>by
    rw[List.take_succ_eq_append_getElem h,jB,lN,hru]
   have hnum:∀z<m,d2'[z]? =some ((op0 z:Int) -if(z:Int)∈row.take (a+1) then 1 else 0):=by
    intro z hz
    subst hc2
    by_cases hzu:z=u
    ·subst hzu
     rw[List.getElem?_set_self hul,aA ((htk _).2 (Or.inr rfl))]
    ·rw[List.getElem?_set_ne (Ne.symm hzu),hL.num z hz]
     have:((z:Int)∈row.take (a+1))=((z:Int)∈row.take a):=by
      rw[eq_iff_iff,htk]
      exact⟨fun h=>h.resolve_right (by omega),Or.inl⟩
     simp only[this]
   have hw:aZ ((a:Int)+1)=((a+1:Nat):Int):=bG (by omega)
   by_cases hz:op0 u=1
   ·have hna:(u:Int)∉e:=fun hm=>by
     rcases(hL.mem _).1 hm with h1|⟨h',h1,h2,_⟩
     ·exact huq (hru▸h1)
     ·have:h'=u:=by omega
      subst this;exact hnt h2
    have hle:e.length≤m:=gB m e hL.n6 fun x hx=>by
     rcases(hL.mem x).1 hx with h1|⟨h',h1,h2,_⟩
     ·exact hq x h1
     ·obtain⟨h'',h3,h4,_⟩:=hrr _ (List.mem_of_mem_take h2)
      omega
    obtain⟨e2,he2,p⟩:=G9 (a:=(u:Int)) (l:=e) (by omega)
    obtain⟨d',e',hL',hf⟩:=ih (a+1) d2' e2 (by omega) (by omega) ⟨hc2l,hnum,p.nodup_iff.2 (List.nodup_cons.2 ⟨hna,hL.n6⟩),fun x=>by
     rw[p.mem_iff,fJ,hL.mem]
     constructor
     ·rintro(rfl|h1|⟨h',h1,h2,h3⟩)
      ·exact Or.inr ⟨u,rfl,(htk _).2 (Or.inr rfl),hz⟩
      ·exact Or.inl h1
      ·exact Or.inr ⟨h',h1,(htk _).2 (Or.inl h2),h3⟩
     ·rintro(h1|⟨h',h1,h2,h3⟩)
      ·exact Or.inr (Or.inl h1)
      ·rcases(htk _).1 h2 with h2|h2
       ·exact Or.inr (Or.inr ⟨h',h1,h2,h3⟩)
       ·exact Or.inl (h1.trans h2)⟩
    refine⟨d',e',hL',fun y k=>?_⟩
    rw[hstep]
    have hf:=hf y k
    unfold eE at hf
    have d5:decide ((op0 u:Int) -1=(0:Int))=true:=cS (by omega)
    simp only[dx,d2,hn1,hdu,hw1,d3,ew,hc2,d4,anr,d5,bU,he2,aL,hw]
    exact hf
   ·obtain⟨d',e',hL',hf⟩:=ih (a+1) d2' e (by omega) (by omega) ⟨hc2l,hnum,hL.n6,fun x=>by
     rw[hL.mem]
     constructor
     ·rintro(h1|⟨h',h1,h2,h3⟩)
      ·exact Or.inl h1
      ·exact Or.inr ⟨h',h1,(htk _).2 (Or.inl h2),h3⟩
     ·rintro(h1|⟨h',h1,h2,h3⟩)
      ·exact Or.inl h1
      ·rcases(htk _).1 h2 with h2|h2
       ·exact Or.inr ⟨h',h1,h2,h3⟩
       ·have:h'=u:=by omega
        subst this;exact absurd h3 hz⟩
    refine⟨d',e',hL',fun y k=>?_⟩
    rw[hstep]
    have hf:=hf y k
    unfold eE at hf
    have d5:decide ((op0 u:Int) -1=(0:Int))=false:=dz (by omega)
    simp only[dx,d2,hn1,hdu,hw1,d3,ew,hc2,d4,anr,d5,bU,dr,cT,hw]
    exact hf
  ·have:a=row.length:=by omega
   subst this
   refine⟨d,e,hL,fun y k=>?_⟩
   rw[hstep]
   have d1:decide ((row.length:Int)<(row.length:Int))=false:=dz (by omega)
   simp only[d1,dr,cT]
structure KI(g:ef)(m:Nat)(q out op:Zg):Prop where
 len:op.length=m
 num:∀h<m,op[h]? =some (ET g out (h:Int):Int)
 n6:(q++out).Nodup
 C0:∀x∈q++out,0≤x∧x<(m:Int)
 zero:∀h:Nat,h<m→((h:Int)∈q++out↔ET g out (h:Int)=0)
 pre:∀i(hi:i<out.length),∀x∈ks g out[i],x∈out.take i
structure KO(g:ef)(m:Nat)(out:Zg):Prop where
 n6:out.Nodup
 C0:∀x∈out,0≤x∧x<(m:Int)
 pre:∀i(hi:i<out.length),∀x∈ks g out[i],x∈out.take i
theorem VE{g:ef}{m x:Nat}(hx:x<m):nth (.slice 8 (.int .i64)) (us g m m) (x:Int)=((List.range m).filter fun h:Nat=>decide ((x:Int)∈ks g (h:Int))).map fun h:Nat=>(h:Int):=by
 rw[dg (t:=.slice 8 (.int .i64)) (show x<(us g m m).length by rw[rZ];exact hx)]
 simp only[us,List.getElem_map,List.getElem_range]
theorem aah{g:ef}{m:Nat}(hg:GG g m):∀(n:Nat)(q out op:Zg),m -out.length<n→KI g m q out op→
 ∃out',KO g m out'∧∀y:YC,fc y.l (Yc y) n (y.l,us g m m,y,0,y.gs 1,op,q,out)=some (.bA (y,0,y.gs 1,out')):=by
 intro n
 have hB:=hB
 have hsm:=hg.small
 induction n with
 |zero=>intro q out op h;omega
 |
  succ n ih=>
  intro q out op hn hK
  have hstep:∀y,fc y.l (Yc y) (n+1) (y.l,us g m m,y,0,y.gs 1,op,q,out)=_:=fun y=>by unfold fc;rw[aN]
  have hqn:q.Nodup:=(List.nodup_append.1 hK.n6).1
  have hon:out.Nodup:=(List.nodup_append.1 hK.n6).2.1
  have hdis:=(List.nodup_append.1 hK.n6).2.2
  have hor:∀x∈out,0≤x∧x<(m:Int):=fun x hx=>hK.C0 x (jc _ hx)
  by_cases hq:q= []
  ·subst hq
   refine⟨out,⟨hon,hor,hK.pre⟩,fun y=>?_⟩
   rw[hstep]
   have e1:CE []=some (0:Int):=rfl
   simp only[e1,aL,show decide ((0:Int)<0)=false from rfl,dr,cT]
  ·have hql:q.length≤m:=gB m q hqn fun x hx=>hK.C0 x (iP _ hx)
   obtain⟨x0,q1,hpop,p⟩:=Vz hq (by omega)
   have hxq:x0∈q:=p.mem_iff.1 (dE ..)
   obtain⟨x,hx,rfl⟩:∃x:Nat,x<m∧x0=(x:Int):=by
    have:=hK.C0 x0 (iP _ hxq)
    exact⟨x0.toNat,by omega,by omega⟩
   have hpn:=List.nodup_cons.1 (p.nodup_iff.2 hqn)
   have hxo:(x:Int)∉out:=fun h=>hdis _ hxq _ h rfl
   have hx0:ET g out (x:Int)=0:=(hK.zero x hx).1 (iP _ hxq)
   have hol:(out++[(x:Int)]).length≤m:=gB m _ (by
    rw[List.nodup_append]
    refine⟨hon,by simp,fun a ha b hb=>?_⟩
    rw[lN] at hb
    subst hb
    exact fun e=>hxo (e▸ha)) fun z hz=>by
    rcases List.mem_append.1 hz with h|h
    ·exact hor z h
    ·rw[lN] at h;omega
   rw[ep,db] at hol
   generalize hrow:(((List.range m).filter fun h:Nat=>decide ((x:Int)∈ks g (h:Int))).map fun h:Nat=>(h:Int))=row
   have hrm:∀h:Nat,(h:Int)∈row↔h<m∧(x:Int)∈ks g (h:Int):=fun h=>by
    rw[←hrow,List.mem_map]
    constructor
    ·rintro⟨h',h1,h2⟩
     have:h'=h:=by omega
     subst this
     have:=List.mem_filter.1 h1
     exact⟨List.mem_range.1 this.1,gM this.2⟩
    ·rintro⟨h1,h2⟩
     exact⟨h,List.mem_filter.2 ⟨List.mem_range.2 h1,cS h2⟩,rfl⟩
   have hrn:row.Nodup:=by
    rw[←hrow]
    refine List.Pairwise.map _ (fun a b hab=>?_) (List.nodup_range.filter _)
    exact fun e=>hab (by omega)
   have hc1:∀h:Nat,(x:Int)∈ks g (h:Int)→1≤ET g out (h:Int):=fun h hm=>by
    rw[Hb hg hxo,aA hm];omega
   have hrr:∀z∈row,∃h:Nat,h<m∧z=(h:Int)∧1≤ET g out (h:Int)∧z∉q1:=fun z hz=>by
    obtain⟨h,h1,h2⟩:=List.mem_map.1 (hrow▸hz)
    subst h2
    have h3:=(hrm h).1 hz
    refine⟨h,h3.1,rfl,hc1 h h3.2,fun hm=>?_⟩
    have:=(hK.zero h h3.1).1 (iP _ (p.mem_iff.1 (d7 _ hm)))
    have:=hc1 h h3.2
    omega
   obtain⟨d',e',hL,hf⟩:=VD hg (us g m m) row (fun h=>ET g out (h:Int)) q1 hrn hrr (fun h=>VB hg _ _) (fun z hz=>hK.C0 z (iP _ (p.mem_iff.1 (d7 _ hz))))
    (row.length+1) 0 op q1 (by omega) (by omega) ⟨hK.len,fun h hh=>by rw[hK.num h hh];simp,hpn.2,fun z=>by simp⟩
   have hK':KI g m e' (out++[(x:Int)]) d':=by
    have hcnt:∀h:Nat,ET g out (h:Int)=ET g (out++[(x:Int)]) (h:Int)+if(x:Int)∈ks g (h:Int) then 1 else 0:=fun h=>Hb hg hxo
    have hmem:∀z,z∈e'↔z∈q1∨∃h:Nat,z=(h:Int)∧(h:Int)∈row∧ET g out (h:Int)=1:=fun z=>by
     have:=hL.mem z
     rw[List.take_length] at this
     exact this
    have hq1:∀z,z∈q1→z∈q∧z≠(x:Int):=fun z hz=>⟨p.mem_iff.1 (d7 _ hz),fun e=>hpn.1 (e▸hz)⟩
    refine⟨hL.len,fun h hh=>?_,?_,fun z hz=>?_,fun h hh=>?_,fun i hi z hz=>?_⟩
    ·have:=hL.num h hh
     rw[List.take_length] at this
     rw[this]
     have h1:=hcnt h
     by_cases hxk:(x:Int)∈ks g (h:Int)
     ·rw[aA hxk] at h1
      rw[aA ((hrm h).2 ⟨hh,hxk⟩)]
      exact congrArg some (by omega)
     ·rw[aC hxk] at h1
      rw[aC (fun hm=>hxk ((hrm h).1 hm).2)]
      exact congrArg some (by omega)
    ·rw[List.nodup_append]
     refine⟨hL.n6,?_,fun a ha b hb=>?_⟩
     ·rw[List.nodup_append]
      refine⟨hon,by simp,fun a ha b hb=>?_⟩
      rw[lN] at hb
      subst hb
      exact fun e=>hxo (e▸ha)
     ·rintro rfl
      rcases(hmem a).1 ha with h1|⟨h,h1,h2,h3⟩
      ·rcases List.mem_append.1 hb with h4|h4
       ·exact hdis _ (hq1 a h1).1 _ h4 rfl
       ·exact(hq1 a h1).2 (List.mem_singleton.1 h4)
      ·subst h1
       have h4:(h:Int)∈q++out:=by
        rcases List.mem_append.1 hb with h5|h5
        ·exact jc _ h5
        ·rw[List.mem_singleton.1 h5];exact iP _ hxq
       have:=(hK.zero h ((hrm h).1 h2).1).1 h4
       omega
    ·rcases List.mem_append.1 hz with h1|h1
     ·rcases(hmem z).1 h1 with h2|⟨h,h2,h3,_⟩
      ·exact hK.C0 z (iP _ (hq1 z h2).1)
      ·have:=((hrm h).1 h3).1;omega
     ·rcases List.mem_append.1 h1 with h2|h2
      ·exact hor z h2
      ·rw[lN] at h2;omega
    ·have h1:=hcnt h
     have h2:=hK.zero h hh
     rw[jB,jB,lN,hmem]
     constructor
     ·rintro((h3|⟨h',h3,h4,h5⟩)|h3|h3)
      ·have:=h2.1 (iP _ (hq1 _ h3).1);omega
      ·have:h'=h:=by omega
       subst this
       rw[aA ((hrm _).1 h4).2] at h1;omega
      ·have:=h2.1 (jc _ h3);omega
      ·have:=h2.1 (iP _ (h3▸hxq));omega
     ·intro h3
      by_cases hz0:ET g out (h:Int)=0
      ·rcases List.mem_append.1 (h2.2 hz0) with h4|h4
       ·rcases List.mem_cons.1 (p.mem_iff.2 h4) with h5|h5
        ·exact Or.inr (Or.inr h5)
        ·exact Or.inl (Or.inl h5)
       ·exact Or.inr (Or.inl h4)
      ·by_cases hxk:(x:Int)∈ks g (h:Int)
       ·rw[aA hxk] at h1
        exact Or.inl (Or.inr ⟨h,rfl,(hrm h).2 ⟨hh,hxk⟩,by omega⟩)
       ·rw[aC hxk] at h1;omega
    ·by_cases hio:i<out.length
     ·rw[List.getElem_append_left hio] at hz
      rw[List.take_append_of_le_length (by omega)]
      exact hK.pre i hio z hz
     ·have hi':i=out.length:=by rw[ep,db] at hi;omega
      subst hi'
      rw[List.getElem_append_right (dc _)] at hz
      simp only[Nat.sub_self,List.getElem_singleton] at hz
      rw[List.take_append_of_le_length (dc _),List.take_length]
      by_cases hzo:z∈out
      ·exact hzo
      ·have:z∈(ks g (x:Int)).filter fun w=>decide (w∉out):=List.mem_filter.2 ⟨hz,cS hzo⟩
       have h9:((ks g (x:Int)).filter fun w=>decide (w∉out))= []:=List.length_eq_zero_iff.1 hx0
       rw[h9] at this
       exact absurd this List.not_mem_nil
   obtain⟨out',hO,hr⟩:=ih e' (out++[(x:Int)]) d' (by rw[ep,db];omega) hK'
   refine⟨out',hO,fun y=>?_⟩
   rw[hstep]
   have hr:=hr y
   have hf:=hf y (out++[(x:Int)])
   unfold fc at hr
   have e1:CE q=some (q.length:Int):=rfl
   have d1:decide ((0:Int)<(q.length:Int))=true:=cS (by have:=List.length_pos_iff.2 hq;omega)
   have e2:Yc y ((x:Int),y,0,y.gs 1,out,())=some (true,y,0,y.gs 1,out++[(x:Int)]):=aaf y (x:Int) out (by omega)
   have d2:((x:Int)<((us g m m).length:Int))=True:=by rw[rZ];simp only[eq_iff_iff,iff_true];omega
   simp only[e1,aL,d1,bU,hpop,e2,Bool.not_true,dr,cT,aI,dx,d2,VE hx,hrow,ew]
   have hf':eE y.l (Yc y) (row.length+1) (y.l,us g m m,row,(row.length:Int),0,y,0,y.gs 1,op,out++[(x:Int)],q1)=some (.bA (y.l,us g m m,y,0,y.gs 1,d',out++[(x:Int)],e')):=hf
   rw[hf',aI]
   exact hr
theorem aai{g:ef}{m:Nat}(hg:GG g m):∃out,KO g m out∧∀y:YC,jq y.l (Yc y) y.l g y 0 (y.gs 1) []=some (y,0,y.gs 1,out):=by
 have hB:=hB
 have hsm:=hg.small
 obtain⟨c',e',hL,h3⟩:=aag hg (us g m m) (m+1) 0 (List.replicate m (0:Int)) [] (by omega) (by omega) ⟨jC ..,fun h hh=>by omega,List.nodup_nil,fun x=>by simp⟩
 obtain⟨out,hO,h9⟩:=aah hg eP e' [] c' (DA (by simp;omega)) ⟨hL.len,fun h hh=>by rw[hL.num h hh,Ha],by rw[dW];exact hL.n6,fun x hx=>by
  rw[dW] at hx
  obtain⟨h,h1,h2,_⟩:=(hL.mem x).1 hx
  omega,fun h hh=>by
  rw[dW,hL.mem,Ha]
  constructor
  ·rintro⟨h',h1,h2,h3⟩
   have:h'=h:=by omega
   subst this;exact h3
  ·intro h1;exact⟨h,hh,rfl,h1⟩,fun i hi=>by simp at hi⟩
 refine⟨out,hO,fun y=>?_⟩
 have h3:=h3 y []
 have h3':fb y.l (Yc y) (m+1) (y.l,g,us g m m,(m:Int),0,y,0,y.gs 1,[],List.replicate m (0:Int),[])=some (.bA (y.l,us g m m,y,0,y.gs 1,[],c',e')):=h3
 unfold jq
 rw[Mr hg,aL,hg.many,eN m,aA (jU _),aA (by omega),ew]
 erw[h3']
 rw[aI]
 dsimp only
 rw[h9 y,aI]
theorem EV{g:ef}{m:Nat}(hg:GG g m):∃out,KO g m out∧jr g=some out:=by
 obtain⟨out,hO,h⟩:=aai hg
 refine⟨out,hO,?_⟩
 unfold jr tM
 rw[nC (r:=.bA out)]
 ·rfl
 ·intro y
  erw[h y]
  simp only[aL,fh,bU]
abbrev NM:=ZY
def kk(M:NM)(h:Int):Zg:=(bE (aQ (.int .i64) (.map (.int .i64) .bool) h M)).map (·.1)
theorem jP{α:Type}{k z:Int}{v:α}{es:List (Int×α)}:z∈(bC (.int .i64) k v es).map (·.1)↔z=k∨z∈es.map (·.1):=by
 have h1:=fU (kt:=.int .i64) rfl (k:=z) (es:=bC (.int .i64) k v es)
 have h2:=fU (kt:=.int .i64) rfl (k:=z) (es:=es)
 by_cases h:z=k
 ·subst h
  exact⟨fun _=>Or.inl rfl,fun _=>h1.1 (mK (kt:=.int .i64) rfl _ _ _)⟩
 ·rw[la (kt:=.int .i64) rfl h] at h1
  exact⟨fun hz=>Or.inr (h2.1 (h1.2 hz)),fun hz=>h1.1 (h2.2 (hz.resolve_left h))⟩
theorem qP{M:NM}{h:Int}{L:Zu}:kk (bC (.int .i64) h (some L) M) h=L.map (·.1):=by
 unfold kk
 rw[dG (kt:=.int .i64) (vt:=.map (.int .i64) .bool) rfl]
 rfl
theorem qQ{M:NM}{h z:Int}{L:Zd}(hz:z≠h):kk (bC (.int .i64) h L M) z=kk M z:=by
 unfold kk
 rw[dS (kt:=.int .i64) (vt:=.map (.int .i64) .bool) rfl hz]
structure RG(m:Nat)(M:NM):Prop where
 n6:∀h,(kk M h).Nodup
 C0:∀h x,x∈kk M h→0≤x∧x<(m:Int)
 VF:(M.map (·.1)).Nodup
 RI:∀x∈M.map (·.1),0≤x∧x<(m:Int)
theorem sU(m x:Int)(M:NM):qI m x M=some (decide (0≤x∧x<m),M):=by
 unfold qI
 by_cases h:0≤x
 ·rw[cU h,aL]
  simp[h]
 ·rw[aC (by simp[h]),aL]
  simp[h]
theorem RG.put{m:Nat}{M:NM}(hM:RG m M){h x:Int}(hh:h∈M.map (·.1))(hx:0≤x∧x<(m:Int)):
 RG m (bC (.int .i64) h (some (bC (.int .i64) x true (bE (aQ (.int .i64) (.map (.int .i64) .bool) h M)))) M):=by
 refine⟨fun z=>?_,fun z y hy=>?_,dw (kt:=.int .i64) rfl hM.VF,fun z hz=>?_⟩
 ·by_cases hz:z=h
  ·subst hz
   rw[qP]
   exact dw (kt:=.int .i64) rfl (hM.n6 z)
  ·rw[qQ hz];exact hM.n6 z
 ·by_cases hz:z=h
  ·subst hz
   rw[qP,jP] at hy
   rcases hy with rfl|hy
   ·exact hx
   ·exact hM.C0 z y hy
  ·rw[qQ hz] at hy;exact hM.C0 z y hy
 ·rw[jP] at hz
  rcases hz with rfl|hz
  ·exact hM.RI _ hh
  ·exact hM.RI z hz
theorem Ms{M:NM}{h x z y:Int}:y∈kk (bC (.int .i64) h (some (bC (.int .i64) x true (bE (aQ (.int .i64) (.map (.int .i64) .bool) h M)))) M) z↔(z=h∧y=x)∨y∈kk M z:=by
 by_cases hz:z=h
 ·subst hz
  rw[qP,jP]
  exact⟨fun hy=>hy.imp (fun e=>⟨rfl,e⟩) id,fun hy=>hy.imp (·.2) id⟩
 ·rw[qQ hz]
  exact⟨Or.inr,fun hy=>hy.resolve_left fun e=>hz e.1⟩
abbrev Mt:Int×ef:=((140:Int),((0:Int),((none:Option NM),())))
theorem VG{m:Nat}(hsm:m≤1000000)(i:Zq)(j k:Int)(fr:ZC)(h:dD)(hfr:fr.length≤aG):∀(n c:Nat)(M:NM),fr.length -c<n→c≤fr.length→RG m M→h.2.1∈M.map (·.1)→(∀z(hz:z<fr.length),z<c→fr[z].2.2.1∈kk M h.2.1)→
 (∃M',kO n (i,j,k,fr,(fr.length:Int),(c:Int),(m:Int),h,M)=some (.bA (i,j,k,(m:Int),M'))∧RG m M'∧(∀z y,y∈kk M z→y∈kk M' z)∧∀f∈fr,f.2.2.1∈kk M' h.2.1)∨
  kO n (i,j,k,fr,(fr.length:Int),(c:Int),(m:Int),h,M)=some (.ret (.ret Mt)):=by
 intro n
 have hB:=hB
 induction n with
 |zero=>intro c M h;omega
 |
  succ n ih=>
  intro c M hn hc hM hh hd
  unfold kO at ih ⊢
  rw[aN]
  generalize aK _ n=rec at ih ⊢
  dsimp only
  by_cases hcl:c<fr.length
  ·rw[cU (by omega),eN c,aA (show(c:Int)<(fr.length:Int) by omega),dg (t:=aO) hcl,sU,aL]
   dsimp only
   by_cases hx:0≤fr[c].2.2.1∧fr[c].2.2.1<(m:Int)
   ·rw[aC (by simp[hx]),aA (fU (kt:=.int .i64) rfl |>.2 hh),aA (iA (kt:=.int .i64) rfl _)]
    have hlen:(bE (aQ qr (.map qr .bool) h.2.1 M)).length≤m:=by
     have:=gB m (kk M h.2.1) (hM.n6 _) (hM.C0 _)
     unfold kk at this
     rw[im] at this
     exact this
    rw[aA (by omega),bG (by omega)]
    rcases ih (c+1) _ (by omega) (by omega) (hM.put hh hx) (by rw[jP];exact Or.inl rfl) (fun z hz hzc=>by
     rw[Ms]
     by_cases e:z=c
     ·subst e;exact Or.inl ⟨rfl,rfl⟩
     ·exact Or.inr (hd z hz (by omega))) with⟨M',e,h1,h2,h3⟩|e
    ·exact Or.inl ⟨M',e,h1,fun z y hy=>h2 z y (Ms.2 (Or.inr hy)),h3⟩
    ·exact Or.inr e
   ·rw[aA (by simp[hx])]
    exact Or.inr rfl
  ·rw[gn (by omega)]
   refine Or.inl ⟨M,rfl,hM,fun _ _ h=>h,fun f hf=>?_⟩
   obtain⟨z,hz,rfl⟩:=jd hf
   exact hd z hz (by omega)
theorem aaj{m:Nat}(hsm:m≤1000000)(rs:Zq)(hrs:rs.length≤aG)(hfr:∀r∈rs,r.2.2.1.length≤aG):∀(n c:Nat)(M:NM),rs.length -c<n→c≤rs.length→RG m M→(∀z(hz:z<rs.length),z<c→∀f∈rs[z].2.2.1,f.2.2.1∈kk M rs[z].2.1)→
 (∃M',nW n (rs,(rs.length:Int),(c:Int),(m:Int),M)=some (.bA ((m:Int),M'))∧RG m M'∧∀r∈rs,∀f∈r.2.2.1,f.2.2.1∈kk M' r.2.1)∨
  nW n (rs,(rs.length:Int),(c:Int),(m:Int),M)=some (.ret Mt):=by
 intro n
 have hB:=hB
 induction n with
 |zero=>intro c M h;omega
 |
  succ n ih=>
  intro c M hn hc hM hd
  unfold nW at ih ⊢
  rw[aN]
  generalize aK _ n=rec at ih ⊢
  dsimp only
  by_cases hcl:c<rs.length
  ·rw[cU (by omega),eN c,aA (show(c:Int)<(rs.length:Int) by omega),dg (t:=bZ) hcl,sU,aL]
   dsimp only
   by_cases hx:0≤rs[c].2.1∧rs[c].2.1<(m:Int)
   ·rw[aC (by simp[hx])]
    have hput:∃M1,RG m M1∧rs[c].2.1∈M1.map (·.1)∧(∀z y,y∈kk M z→y∈kk M1 z)∧
     (if(!(cC (.int .i64) rs[c].2.1 M))=true then(if cC (.int .i64) rs[c].2.1 M=false then(if bD (.int .i64) rs[c].2.1 rs[c].2.1=true then(if List.length M+1≤aG then(some (cH.bA (rs,(rs.length:Int),(c:Int),(m:Int),rs[c],bC (.int .i64) rs[c].2.1 (some ([]:Zu)) (bC (.int .i64) rs[c].2.1 (Ty.aD (.map (.int .i64) .bool)) M)))) else none) else none) else none) else(some (.bA (rs,(rs.length:Int),(c:Int),(m:Int),rs[c],M))):Option (cH (List dD×Int×Int×Int×dD×NM) (cH (List dD×Int×Int×Int×NM) (cH (Int×NM) (Int×ef)))))=some (.bA (rs,(rs.length:Int),(c:Int),(m:Int),rs[c],M1)):=by
     cases hm:cC (.int .i64) rs[c].2.1 M with
     |true=>exact⟨M,hM,fU (kt:=.int .i64) rfl |>.1 hm,fun _ _ h=>h,by rw[aC (by simp)]⟩
     |
      false=>
      have hno:rs[c].2.1∉M.map (·.1):=fun h=>by
       have:=fU (kt:=.int .i64) rfl |>.2 h
       rw[hm] at this;cases this
      have hk0:kk M rs[c].2.1= []:=by
       unfold kk
       rw[zC (kt:=.int .i64) hm]
       rfl
      have hlen:M.length≤m:=by
       have:=gB m (M.map (·.1)) hM.VF hM.RI
       rw[im] at this
       exact this
      refine⟨_,⟨fun z=>?_,fun z y hy=>?_,dw (kt:=.int .i64) rfl (dw (kt:=.int .i64) rfl hM.VF),fun z hz=>?_⟩,jP.2 (Or.inl rfl),fun z y hy=>?_,by rw[aA (by simp),aA rfl,aA (iA (kt:=.int .i64) rfl _),aA (by omega)]⟩
      ·by_cases hz:z=rs[c].2.1
       ·subst hz;rw[qP];exact List.nodup_nil
       ·rw[qQ hz,qQ hz];exact hM.n6 z
      ·by_cases hz:z=rs[c].2.1
       ·subst hz;rw[qP] at hy;cases hy
       ·rw[qQ hz,qQ hz] at hy;exact hM.C0 z y hy
      ·rw[jP,jP] at hz
       rcases hz with rfl|rfl|hz
       ·exact hx
       ·exact hx
       ·exact hM.RI z hz
      ·by_cases hz:z=rs[c].2.1
       ·subst hz;rw[hk0] at hy;cases hy
       ·rw[qQ hz,qQ hz];exact hy
    obtain⟨M1,hM1,hh1,hk1,e1⟩:=hput
    rw[e1,aI]
    dsimp only
    rcases VG hsm rs (rs.length:Int) (c:Int) rs[c].2.2.1 rs[c] (hfr _ (iQ hcl)) (rs[c].2.2.1.length+1) 0 M1 (by omega) (by omega) hM1 hh1 (fun z hz h=>by omega) with⟨M',e,h1,h2,h3⟩|e
    ·have e':kO (Int.toNat (List.length rs[c].2.2.1:Int)+1) (rs,(rs.length:Int),(c:Int),rs[c].2.2.1,(List.length rs[c].2.2.1:Int),0,(m:Int),rs[c],M1)=some (.bA (rs,(rs.length:Int),(c:Int),(m:Int),M')):=e
     rw[e',aI]
     dsimp only
     rw[bG (by omega)]
     exact ih (c+1) M' (by omega) (by omega) h1 fun z hz hzc f hf=>by
      by_cases ec:z=c
      ·subst ec;exact h3 f hf
      ·exact h2 _ _ (hk1 _ _ (hd z hz (by omega) f hf))
    ·have e':kO (Int.toNat (List.length rs[c].2.2.1:Int)+1) (rs,(rs.length:Int),(c:Int),rs[c].2.2.1,(List.length rs[c].2.2.1:Int),0,(m:Int),rs[c],M1)=some (.ret (.ret Mt)):=e
     rw[e',eT]
     exact Or.inr rfl
   ·rw[aA (by simp[hx])]
    exact Or.inr rfl
  ·rw[gn (by omega)]
   refine Or.inl ⟨M,rfl,hM,fun r hr=>?_⟩
   obtain⟨z,hz,rfl⟩:=jd hr
   exact hd z hz (by omega)
structure SB(s:cM):Prop where
 dA:s.2.2.1.length≤1000000
 rules:s.2.2.2.1.length≤aG
 aak:∀r∈s.2.2.2.1,r.2.2.1.length≤aG
theorem RJ{s:cM}(hs:SB s):(∃g,LK s=some ((0:Int),g)∧GG g s.2.2.1.length∧∀r∈s.2.2.2.1,∀f∈r.2.2.1,f.2.2.1∈ks g r.2.1)∨LK s=some Mt:=by
 have key:=aaj hs.dA s.2.2.2.1 hs.rules hs.aak (s.2.2.2.1.length+1) 0 [] (by omega) (by omega) ⟨fun h=>List.nodup_nil,fun h x hx=>(by cases hx),List.nodup_nil,fun x hx=>(by cases hx)⟩ (fun z hz h=>by omega)
 unfold LK
 rcases key with⟨M',e,h1,h2⟩|e
 ·have e':nW (Int.toNat (List.length s.2.2.2.1:Int)+1) (s.2.2.2.1,(List.length s.2.2.2.1:Int),0,(List.length s.2.2.1:Int),([]:NM))=some (.bA ((s.2.2.1.length:Int),M')):=e
  rw[e',aI]
  exact Or.inl ⟨_,rfl,⟨rfl,hs.dA,fun h=>h1.n6 h,fun h x hx=>h1.C0 h x hx⟩,h2⟩
 ·have e':nW (Int.toNat (List.length s.2.2.2.1:Int)+1) (s.2.2.2.1,(List.length s.2.2.2.1:Int),0,(List.length s.2.2.1:Int),([]:NM))=some (.ret Mt):=e
  rw[e',eT]
  exact Or.inr rfl
structure r9(s:cM)(l:Zg):Prop where
 n6:l.Nodup
 all:∀x,x∈l↔0≤x∧x<(s.2.2.1.length:Int)
 pre:∀r∈s.2.2.2.1,∀f∈r.2.2.1,l.idxOf f.2.2.1<l.idxOf r.2.1
theorem KO.all{g:ef}{m:Nat}{out:Zg}(h:KO g m out)(hl:m≤out.length)(x:Int):x∈out↔0≤x∧x<(m:Int):=by
 refine⟨h.C0 x,fun hx=>?_⟩
 by_cases hm:x∈out
 ·exact hm
 ·have:=gB m (x::out) (List.nodup_cons.2 ⟨hm,h.n6⟩) fun y hy=>by
   rcases List.mem_cons.1 hy with rfl|hy
   ·exact hx
   ·exact h.C0 y hy
  rw[d9] at this
  omega
theorem CS{s:cM}(hs:SB s):∃l ok e,Be s=some (l,ok,e)∧(e=0→ok=true→(∀r∈s.2.2.2.1,0≤r.2.1∧r.2.1<(s.2.2.1.length:Int))→r9 s l):=by
 unfold Be
 rcases RJ hs with⟨g,e,hg,hn⟩|e
 ·rw[e,aL]
  dsimp only
  rw[aC (by decide)]
  obtain⟨out,hO,ho⟩:=EV hg
  have ho:=(yx g).trans ho
  have e2:Al g=some g:=rfl
  rw[e2,aL,ho,aL,hg.many]
  by_cases hl:out.length<s.2.2.1.length
  ·rw[cU (by omega)]
   exact⟨_,_,_,rfl,fun _ h=>(by cases h)⟩
  ·rw[gn (by omega)]
   refine⟨_,_,_,rfl,fun _ _ hr=>⟨hO.n6,hO.all (by omega),fun r hrm f hf=>?_⟩⟩
   have hin:r.2.1∈out:=(hO.all (by omega) _).2 (hr r hrm)
   have hi:=List.idxOf_lt_length_of_mem hin
   have h1:=hO.pre _ hi f.2.2.1 (by rw[List.getElem_idxOf];exact hn r hrm f hf)
   obtain⟨j,hj,e3⟩:=jd h1
   rw[kz] at hj
   rw[List.getElem_take] at e3
   rw[←e3,hO.n6.idxOf_getElem]
   omega
 ·rw[e,aL]
  dsimp only
  rw[aA (by decide)]
  exact⟨_,_,_,rfl,fun h=>(by cases h)⟩
theorem fu{A R:Type}{x:Option A}{f:A→Option R}(hx:∃a,x=some a)(hf:∀a,∃r,f a=some r):∃r,Option.bind x f=some r:=by
 obtain⟨a,rfl⟩:=hx
 exact hf a
theorem wN(x y:ZQ)(hl:x.length≤aG):∃r,BC x y=some r:=N5 .str (fun a b=>decide (a=b)) x y fun _=>hl
theorem Iy(l:ZQ)(hl:l.length≤aG):∃r,Ug l=some r:=by
 have hB:=hB
 have key:∀(n a:Nat)(d:List (Zj×Bool)),l.length -a<n→a≤l.length→d.length≤a→∃r,aH (U:=Unit) (Aa n (l,(l.length:Int),(a:Int),d)) (fun _=>some true)=some r:=by
  intro n
  induction n with
  |zero=>intro a d h;omega
  |
   succ n ih=>
   intro a d hn ha hd
   unfold Aa at ih ⊢
   rw[aN]
   generalize aK _ n=rec at ih ⊢
   dsimp only
   by_cases h:a<l.length
   ·rw[cU (by omega),eN a,aA (show(a:Int)<(l.length:Int) by omega)]
    split
    ·exact⟨_,rfl⟩
    ·rw[aA (by omega),bG (by omega)]
     exact ih (a+1) _ (by omega) (by omega) (cI (dt (kt:=.str)) (by omega))
   ·rw[gn (by omega)]
    exact⟨_,rfl⟩
 exact key _ 0 [] (by omega) (by omega) (by simp)
theorem Iz(l:Zg)(hl:l.length≤aG):∃r,Uj l=some r∧(r=true→l.Nodup):=by
 have hB:=hB
 have key:∀(n a:Nat)(d:Zu),l.length -a<n→a≤l.length→d.length≤a→(∀x∈l.take a,aQ (.int .i64) .bool x d=true)→(l.take a).Nodup→∃r,aH (U:=Unit) (Ae n (l,(l.length:Int),(a:Int),d)) (fun _=>some true)=some r∧(r=true→l.Nodup):=by
  intro n
  induction n with
  |zero=>intro a d h;omega
  |
   succ n ih=>
   intro a d hn ha hd h1 h2
   unfold Ae at ih ⊢
   rw[aN]
   generalize aK _ n=rec at ih ⊢
   dsimp only
   by_cases h:a<l.length
   ·rw[cU (by omega),eN a,aA (show(a:Int)<(l.length:Int) by omega),dg (t:=.int .i64) h]
    by_cases hs:aQ (.int .i64) .bool l[a] d=true
    ·rw[aA hs];exact⟨false,rfl,fun h=>(by cases h)⟩
    ·rw[aC hs,aA (by omega),bG (by omega)]
     have ht:l.take (a+1)=l.take a++[l[a]]:=(List.take_append_getElem h).symm
     refine ih (a+1) _ (by omega) (by omega) (cI (dt (kt:=.int .i64)) (by omega)) (fun x hx=>?_) ?_
     ·rw[ht,jB,lN] at hx
      by_cases e:x=l[a]
      ·rw[e];exact dG (kt:=.int .i64) (vt:=.bool) rfl _ _ _
      ·rw[dS (kt:=.int .i64) (vt:=.bool) rfl e];exact h1 x (hx.resolve_right e)
     ·rw[ht,List.nodup_append]
      refine⟨h2,List.nodup_cons.2 ⟨List.not_mem_nil,List.nodup_nil⟩,fun x hx y hy=>?_⟩
      rw[List.mem_singleton.1 hy]
      exact fun e=>hs (h1 _ (e▸hx))
   ·rw[gn (by omega)]
    have e:a=l.length:=by omega
    subst e
    rw[List.take_length] at h2
    exact⟨true,rfl,fun _=>h2⟩
 exact key _ 0 [] (by omega) (by omega) (by simp) (fun x hx=>(by cases hx)) List.nodup_nil
abbrev dU(t:dT):ZQ:=t.2.2.2.2.2.1
theorem yz(t:dT)(n:Int):∃r,Ib t n=some r:=by
 unfold Ib
 refine fu ?_ fun v=>⟨v,rfl⟩
 repeat' (first|exact⟨_,rfl⟩|split)
theorem IA(t:dT)(n:Int):∃r,Ia t n=some r:=by
 unfold Ia
 refine fu ?_ fun v=>⟨v,rfl⟩
 repeat' (first|exact⟨_,rfl⟩|split)
theorem IB(t:dT)(n:Int):∃r,H9 t n=some r:=by
 unfold H9
 refine fu ?_ fun v=>⟨v,rfl⟩
 repeat' (first|exact⟨_,rfl⟩|split)
theorem ID(t:dT)(n:Int)(h:(dU t).length≤aG):∃r,H8 t n=some r:=by
 unfold H8
 obtain⟨q,hq⟩:=Iy _ h
 refine fu ?_ fun v=>⟨v,rfl⟩
 rw[hq]
 repeat' (first|exact⟨_,rfl⟩|split)
theorem pt(c:dJ)(t:dT)(h:(dU t).length≤aG):∃r,ni c t=some r:=by
 unfold ni
 by_cases h1:t.1<1
 ·rw[cU h1];exact⟨_,rfl⟩
 ·by_cases h2:(4:Int)<t.1
  ·rw[aC (by simpa using h1),cS h2];exact⟨_,rfl⟩
  ·rw[aC (by simpa using h1),dz h2,aL,aC (by decide),aI]
   dsimp only
   rw[aA (by omega),aA (by omega),aC (by omega)]
   by_cases e1:t.1=1
   ·rw[aA e1];exact fu (yz _ _) fun v=>⟨v,rfl⟩
   ·rw[aC e1]
    by_cases e2:t.1=2
    ·rw[aA e2];exact fu (IA _ _) fun v=>⟨v,rfl⟩
    ·rw[aC e2]
     by_cases e3:t.1=3
     ·rw[aA e3];exact fu (IB _ _) fun v=>⟨v,rfl⟩
     ·rw[aC e3,aA (by omega)];exact fu (ID _ _ h) fun v=>⟨v,rfl⟩
theorem pv(c:dJ)(u:gQ):∃r,CD c u=some r:=by
 unfold CD
 refine fu ?_ fun v=>⟨v,rfl⟩
 by_cases h1:0≤u.2.2.2.1
 ·by_cases h2:u.2.2.2.1<(c.1.2.1.length:Int)
  ·rw[aA h1,aA h2]
   repeat' (first|exact⟨_,rfl⟩|split)
  ·rw[aC (show¬decide (u.2.2.2.1<(List.length c.1.2.1:Int))=true by simpa using h2)]
   repeat' (first|exact⟨_,rfl⟩|split)
 ·rw[aC (show¬decide ((0:Int)≤u.2.2.2.1)=true by simpa using h1)]
  repeat' (first|exact⟨_,rfl⟩|split)
def cL(s:cM)(a:Int):ZL:=(nth bR s.2.2.1 a).2.2.2.2.1
structure Sy(s:cM)(a b:Int):Prop where
 a0:0≤a
 a1:a<(s.2.2.1.length:Int)
 b0:0≤b
 b1:b<((cL s a).length:Int)
theorem kU(c:dJ)(a b:Int):(Sy c.1 a b∧Ad c a b=some (true,(nth ck (cL c.1 a) b).2.1))∨(¬Sy c.1 a b∧∃t,Ad c a b=some (false,t)):=by
 unfold Ad
 by_cases h1:a<0
 ·rw[cU h1]
  exact Or.inr ⟨fun h=>by have:=h.a0;omega,_,rfl⟩
 ·rw[aC (by simpa using h1)]
  by_cases h2:(c.1.2.2.1.length:Int)≤a
  ·rw[cU h2]
   exact Or.inr ⟨fun h=>by have:=h.a1;omega,_,rfl⟩
  ·rw[aC (by simpa using h2)]
   by_cases h3:b<0
   ·rw[cU h3]
    exact Or.inr ⟨fun h=>by have:=h.b0;omega,_,rfl⟩
   ·rw[aC (by simpa using h3),aA (show 0≤a by omega),aA (show a<(c.1.2.2.1.length:Int) by omega)]
    by_cases h4:((cL c.1 a).length:Int)≤b
    ·have d4:decide (((cL c.1 a).length:Int)≤b)=true:=cS h4
     unfold cL at d4
     rw[d4,aL,aA rfl]
     exact Or.inr ⟨fun h=>by have:=h.b1;omega,_,rfl⟩
    ·have d4:decide (((cL c.1 a).length:Int)≤b)=false:=dz h4
     have h5:b<((cL c.1 a).length:Int):=by omega
     have h6:=h5
     unfold cL at d4 h6
     rw[d4,aL,aC (by decide),aI]
     dsimp only
     rw[aA (show 0≤a by omega),aA (show a<(c.1.2.2.1.length:Int) by omega),aA (show 0≤b by omega),aA h6]
     exact Or.inl ⟨⟨by omega,by omega,by omega,h5⟩,rfl⟩
structure Sz(c:fP)(t:gQ)(n:Int):Prop where
 v0:0≤t.2.2.1
 v1:t.2.2.1<n
 f:Sy c.1.1 (nth aO c.2.1.2.2.1 t.2.2.1).2.2.1 t.2.2.2.1
theorem nn(c:fP)(t:gQ){n:Int}(hn:n≤(c.2.1.2.2.1.length:Int)):
 (Sz c t n∧Ev c t n=some (true,(nth ck (cL c.1.1 (nth aO c.2.1.2.2.1 t.2.2.1).2.2.1) t.2.2.2.1).2.1))∨(¬Sz c t n∧∃y,Ev c t n=some (false,y)):=by
 unfold Ev
 by_cases h1:t.2.2.1<0
 ·rw[cU h1]
  exact Or.inr ⟨fun h=>by have:=h.v0;omega,_,rfl⟩
 ·rw[aC (by simpa using h1)]
  by_cases h2:n≤t.2.2.1
  ·rw[cS h2,aL,aA rfl]
   exact Or.inr ⟨fun h=>by have:=h.v1;omega,_,rfl⟩
  ·rw[dz h2,aL,aC (by decide),aI]
   dsimp only
   rw[aA (show 0≤t.2.2.1 by omega),aA (show t.2.2.1<(c.2.1.2.2.1.length:Int) by omega)]
   rcases kU c.1 (nth aO c.2.1.2.2.1 t.2.2.1).2.2.1 t.2.2.2.1 with⟨hi,e⟩|⟨hi,y,e⟩
   ·rw[e]
    exact Or.inl ⟨⟨by omega,by omega,hi⟩,rfl⟩
   ·rw[e]
    exact Or.inr ⟨fun h=>hi h.f,y,rfl⟩
theorem EW{t:dT}{n:Int}(h:Ib t n=some true):-1≤t.2.2.2.2.1∧t.2.2.2.2.1<n:=by
 unfold Ib at h
 by_cases h1:-1≤t.2.2.2.2.1
 ·by_cases h2:t.2.2.2.2.1<n
  ·exact⟨h1,h2⟩
  ·exfalso
   rw[aC (show¬decide (t.2.2.2.2.1<n)=true by simpa using h2)] at h
   repeat' (first|cases h;done|split at h)
 ·exfalso
  rw[aC (show¬decide ((-1:Int)≤t.2.2.2.2.1)=true by simpa using h1)] at h
  repeat' (first|cases h;done|split at h)
theorem sV{c:dJ}{t:dT}(h:ni c t=some true)(h1:t.1=1):-1≤t.2.2.2.2.1∧t.2.2.2.2.1<(c.1.2.1.length:Int):=by
 unfold ni at h
 rw[aC (show¬decide (t.1<(1:Int))=true by rw[h1];decide),h1,aL,aC (by decide),aI] at h
 dsimp only at h
 rw[h1,aA (by decide),aA (by decide),aC (by decide),aA rfl] at h
 obtain⟨q,hq⟩:=yz t (c.1.2.1.length:Int)
 rw[hq] at h
 cases h
 exact EW hq
def IE(c:fP)(t:gQ):dT:=(nth ck (cL c.1.1 (nth aO c.2.1.2.2.1 t.2.2.1).2.2.1) t.2.2.2.1).2.1
structure FO(c:fP)(j:Nat):Prop where
 s0:0≤(nth aO c.2.1.2.2.1 (j:Int)).2.2.1
 s1:(nth aO c.2.1.2.2.1 (j:Int)).2.2.1<(c.1.1.2.2.1.length:Int)
 of:(nth aO c.2.1.2.2.1 (j:Int)).2.2.2.1.2.2.1= -1∨Sz c (nth aO c.2.1.2.2.1 (j:Int)).2.2.2.1 (j:Int)
 pk:(nth aO c.2.1.2.2.1 (j:Int)).2.2.2.1.2.2.1= -1∨(IE c (nth aO c.2.1.2.2.1 (j:Int)).2.2.2.1).1=3
theorem VH(
 c:fP) (hl:c.2.1.2.2.1.length≤aG):∀(n i:Nat),c.2.1.2.2.1.length -i<n→i≤c.2.1.2.2.1.length→(∀j<i,FO c j)→
 (aH (U:=Unit) (ua n (c.2.1.2.2.1,(c.2.1.2.2.1.length:Int),(i:Int),c)) (fun _=>some true)=some true∧∀j<c.2.1.2.2.1.length,FO c j)∨aH (U:=Unit) (ua n (c.2.1.2.2.1,(c.2.1.2.2.1.length:Int),(i:Int),c)) (fun _=>some true)=some false:=by
 intro n
 have hB:=hB
 induction n with
 |zero=>intro i h;omega
 |
  succ n ih=>
  intro i hn hi hd
  unfold ua at ih ⊢
  rw[aN]
  generalize aK _ n=rec at ih ⊢
  dsimp only
  by_cases h:i<c.2.1.2.2.1.length
  ·rw[cU (by
    omega),eN i,aA (show(i:Int)<(c.2.1.2.2.1.length:Int) by omega)]
   by_cases h1:(nth aO c.2.1.2.2.1 (i:Int)).2.2.1<0
   ·rw[cU h1];exact Or.inr rfl
   ·rw[aC (show¬decide ((nth aO c.2.1.2.2.1 (i:Int)).2.2.1<(0:Int))=true by simpa using h1)]
    by_cases h2:(c.1.1.2.2.1.length:Int)≤(nth aO c.2.1.2.2.1 (i:Int)).2.2.1
    ·rw[cS h2,aL,aA rfl];exact Or.inr rfl
    ·rw[dz h2,aL,aC (by decide),aI]
     dsimp only
     rw[bG (by omega)]
     by_cases h3:(nth aO c.2.1.2.2.1 (i:Int)).2.2.2.1.2.2.1= -1
     ·rw[cU h3]
      exact ih (i+1) (by omega) (by omega) fun j hj=>by
       by_cases e:j=i
       ·subst e;exact⟨Int.not_lt.1 h1,Int.not_le.1 h2,Or.inl h3,Or.inl h3⟩
       ·exact hd j (by omega)
     ·rw[aC (show¬decide ((nth aO c.2.1.2.2.1 (i:Int)).2.2.2.1.2.2.1=(-1:Int))=true by simpa using h3)]
      rcases nn c (nth aO c.2.1.2.2.1 (i:Int)).2.2.2.1 (n:=(i:Int)) (by omega) with⟨hit,e⟩|⟨_,y,e⟩
      ·rw[e,aL]
       dsimp only
       rw[aC (by decide),aL]
       by_cases h4:(IE c (nth aO c.2.1.2.2.1 (i:Int)).2.2.2.1).1=3
       ·have h5:=h4
        unfold IE at h5
        rw[aC (by simp[h5])]
        exact ih (i+1) (by omega) (by omega) fun j hj=>by
         by_cases e:j=i
         ·subst e;exact⟨Int.not_lt.1 h1,Int.not_le.1 h2,Or.inr hit,Or.inr h4⟩
         ·exact hd j (by omega)
       ·unfold IE at h4
        rw[aA (by simpa using h4)]
        exact Or.inr rfl
      ·rw[e,aL]
       dsimp only
       rw[aA (by decide),aL,aA rfl]
       exact Or.inr rfl
  ·rw[gn (by omega)]
   exact Or.inl ⟨rfl,fun j hj=>hd j (by omega)⟩
theorem EX(c:fP)(hl:c.2.1.2.2.1.length≤aG):(LC c=some true∧1≤c.2.1.2.2.1.length∧c.2.1.2.2.1.length≤3∧∀j<c.2.1.2.2.1.length,FO c j)∨LC c=some false:=by
 unfold LC
 by_cases h1:(c.2.1.2.2.1.length:Int)<1
 ·rw[cU h1];exact Or.inr rfl
 ·rw[aC (show¬decide ((c.2.1.2.2.1.length:Int)<(1:Int))=true by simpa using h1)]
  by_cases h2:(3:Int)<(c.2.1.2.2.1.length:Int)
  ·rw[cS h2,aL,aA rfl];exact Or.inr rfl
  ·rw[dz h2,aL,aC (by decide),aI]
   rcases VH c hl (c.2.1.2.2.1.length+1) 0 (by omega) (by omega) (fun j hj=>by omega) with⟨e,h⟩|e
   ·exact Or.inl ⟨e,by omega,by omega,h⟩
   ·exact Or.inr e
def UO(s:cM):Prop:=∀x∈s.2.2.1,∀f∈x.2.2.2.2.1,f.2.1.1=1→-1≤f.2.1.2.2.2.2.1∧f.2.1.2.2.2.2.1<(s.2.1.length:Int)
def NB(s:cM):Prop:=∀x∈s.2.2.1,x.2.2.2.2.1.length≤aG∧∀f∈x.2.2.2.2.1,(dU f.2.1).length≤aG
theorem Sy.mem{s:cM}{a b:Int}(h:Sy s a b):nth bR s.2.2.1 a∈s.2.2.1∧nth ck (cL s a) b∈(nth bR s.2.2.1 a).2.2.2.2.1:=
 ⟨dO h.a0 h.a1,dO (t:=ck) (l:=cL s a) h.b0 h.b1⟩
theorem wO(c:dJ)(a b:dT)(hn:(dU a).length≤aG)(ha:a.1=1→-1≤a.2.2.2.2.1∧a.2.2.2.2.1<(c.1.2.1.length:Int))(hb:b.1=1→-1≤b.2.2.2.2.1∧b.2.2.2.2.1<(c.1.2.1.length:Int)):∃r,Pr c a b=some r:=by
 unfold Pr
 by_cases h1:a.1=b.1
 ·rw[aC (by simp[h1])]
  by_cases h4:a.1=4
  ·rw[cU h4]
   obtain⟨q,hq⟩:=wN (dU a) (dU b) hn
   unfold dU at hq
   rw[hq];exact⟨_,rfl⟩
  ·rw[aC (show¬decide (a.1=(4:Int))=true by simpa using h4)]
   by_cases e1:a.1=1
   ·obtain⟨ha1,ha2⟩:=ha e1
    obtain⟨hb1,hb2⟩:=hb (by omega)
    rw[aC (by simp[e1])]
    by_cases u1:a.2.2.2.2.1= -1
    ·rw[cU u1];exact⟨_,rfl⟩
    ·rw[aC (show¬decide (a.2.2.2.2.1=(-1:Int))=true by simpa using u1)]
     by_cases u2:b.2.2.2.2.1= -1
     ·rw[cS u2];exact⟨_,rfl⟩
     ·rw[dz u2,aL,aC (by decide),aI]
      dsimp only
      rw[aA (by omega),aA ha2,aA (by omega),aA hb2]
      exact⟨_,rfl⟩
   ·rw[aA (by simp[e1])];exact⟨_,rfl⟩
 ·rw[aA (by simp[h1])];exact⟨_,rfl⟩
def xl(c:fP)(t:gQ):Prop:=Sz c t (c.2.1.2.2.1.length:Int)∨t.2.2.1= -1
def SV(c:fP)(y:dT)(t:gQ):Prop:=(t.2.2.1= -1∧y.2.1≤t.2.2.2.2.1∧t.2.2.2.2.1≤y.2.2.1)∨(Sz c t (c.2.1.2.2.1.length:Int)∧y.2.1≤(IE c t).2.1∧(IE c t).2.2.1≤y.2.2.1)
theorem SC{P:Prop}{x:Zo}(h:∃z,x=some z∧(z=true→P)):∃r,(Option.bind x fun v=>some v)=some r∧(r=true→P):=by
 obtain⟨z,rfl,h⟩:=h
 exact⟨z,rfl,h⟩
def GT(s:cM)(y:dT):Prop:=(dU y).length≤aG∧(y.1=1→-1≤y.2.2.2.2.1∧y.2.2.2.2.1<(s.2.1.length:Int))
theorem Sz.gt{c:fP}{t:gQ}{n:Int}(h:Sz c t n)(hN:NB c.1.1)(hU:UO c.1.1):GT c.1.1 (IE c t):=by
 obtain⟨h1,h2⟩:=h.f.mem
 exact⟨(hN _ h1).2 _ h2,hU _ h1 _ h2⟩
theorem sW(t:gQ):∃r,LD t=some r∧(r=true→t.2.2.1= -1):=by
 unfold LD
 by_cases h:t.2.2.1= -1
 ·obtain⟨r,hr⟩:∃r,(Option.bind (α:=Bool) (if(decide (t.2.2.1=(-1:Int)))=true then(if(decide ((0:Int)≤t.2.2.2.2.1))=true then(some (decide (t.2.2.2.2.1≤(1048576:Int)))) else(some false)) else(some false)) fun v1=>some v1)=some r:=by
   refine fu ?_ fun v=>⟨v,rfl⟩
   repeat' (first|exact⟨_,rfl⟩|split)
  exact⟨r,hr,fun _=>h⟩
 ·rw[aC (show¬decide (t.2.2.1=(-1:Int))=true by simpa using h)]
  exact⟨false,rfl,fun h=>(by cases h)⟩
theorem Mu(c:fP)(y:dT)(t:gQ)(hN:NB c.1.1):∃r,Pt c y t=some r∧(r=true→xl c t∧SV c y t):=by
 unfold Pt
 obtain⟨b,hb,hbm⟩:=sW t
 rw[hb,aL]
 cases b with
 |
  true=>
  rw[aA rfl]
  refine SC ?_
  by_cases h1:y.2.1≤t.2.2.2.2.1
  ·rw[cU h1]
   exact⟨_,rfl,fun h=>⟨Or.inr (hbm rfl),Or.inl ⟨hbm rfl,h1,gM h⟩⟩⟩
  ·rw[aC (fun h=>h1 (gM h))]
   exact⟨false,rfl,fun h=>(by cases h)⟩
 |
  false=>
  rw[aC (by decide)]
  rcases nn c t (n:=(c.2.1.2.2.1.length:Int)) (jU _) with⟨hi,e⟩|⟨_,z,e⟩
  ·rw[e,aL]
   dsimp only
   have h1:=hi.f.mem
   obtain⟨q,hq⟩:=wN (dU (IE c t)) (dU y) ((hN _ h1.1).2 _ h1.2)
   unfold dU IE at hq
   refine SC ?_
   rw[aA rfl]
   simp only[hq,aL]
   by_cases g1:y.2.1≤(IE c t).2.1
   ·by_cases g2:(IE c t).2.2.1≤y.2.2.1
    ·have key:∀x:Zo,(∃r,x=some r)→∃r,x=some r∧(r=true→xl c t∧SV c y t):=fun x ⟨r,hr⟩=>⟨r,hr,fun _=>⟨Or.inl hi,Or.inr ⟨hi,g1,g2⟩⟩⟩
     apply key
     repeat' (first|exact⟨_,rfl⟩|split)
    ·unfold IE at g2
     simp only[dz g2]
     repeat' (first|exact⟨false,rfl,fun h=>(by cases h)⟩|split)
   ·unfold IE at g1
    simp only[dz g1]
    repeat' (first|exact⟨false,rfl,fun h=>(by cases h)⟩|split)
  ·rw[e,aL]
   exact⟨false,rfl,fun h=>(by cases h)⟩
theorem VI(c:fP)(a:qN)(hN:NB c.1.1)(hU:UO c.1.1)(e:Zz)(he:e.length≤1000):∀(n i:Nat)(g:List dT),e.length -i<n→i≤e.length→g.length≤i→(∀y∈g,GT c.1.1 y)→(∀j(hj:j<e.length),j<i→xl c e[j])→
 (∃g',nS n ((e.length:Int),(i:Int),c,a,e,g)=some (.bA (c,a,g'))∧g'.length≤e.length∧(∀y∈g',GT c.1.1 y)∧∀t∈e,xl c t)∨nS n ((e.length:Int),(i:Int),c,a,e,g)=some (.ret false):=by
 intro n
 have hB:=hB
 induction n with
 |zero=>intro i g h;omega
 |
  succ n ih=>
  intro i g hn hi hgl hg hd
  unfold nS at ih ⊢
  rw[aN]
  generalize aK _ n=rec at ih ⊢
  dsimp only
  by_cases h:i<e.length
  ·rw[cU (by omega),eN i,aA (show(i:Int)<(e.length:Int) by omega),dg (t:=aT) h,bG (by omega)]
   rcases nn c e[i] (n:=(c.2.1.2.2.1.length:Int)) (jU _) with⟨hit,e1⟩|⟨_,y,e1⟩
   ·rw[e1,aL]
    dsimp only
    rw[aC (by decide),aL,aC (by decide),aA rfl,aA (show(g.length+List.length [_])*72≤aG by rw[db];omega)]
    exact ih (i+1) _ (by omega) (by omega) (by rw[ep,db];omega) (fun z hz=>by
     rcases List.mem_append.1 hz with hz|hz
     ·exact hg z hz
     ·rw[lN] at hz
      subst hz
      exact hit.gt hN hU) fun j hj hji=>by
     by_cases ej:j=i
     ·subst ej;exact Or.inl hit
     ·exact hd j hj (by omega)
   ·rw[e1,aL]
    dsimp only
    obtain⟨b,hb,hbm⟩:=sW e[i]
    rw[aA (by decide),hb,aL,aL]
    cases b with
    |false=>rw[aA (by decide)];exact Or.inr rfl
    |
     true=>
     rw[aC (by decide),aC (by decide)]
     exact ih (i+1) g (by omega) (by omega) (by omega) hg fun j hj hji=>by
      by_cases ej:j=i
      ·subst ej;exact Or.inr (hbm rfl)
      ·exact hd j hj (by omega)
  ·rw[gn (by omega)]
   refine Or.inl ⟨g,rfl,by omega,hg,fun t ht=>?_⟩
   obtain⟨j,hj,rfl⟩:=jd ht
   exact hd j hj (by omega)
theorem RL(a:qN)(g:List dT)(hg:g.length≤1000):∀(n i:Nat),g.length -i<n→i≤g.length→∃r,aH (U:=Unit) (nj n ((g.length:Int),(i:Int),a,g)) (fun _=>some true)=some r:=by
 intro n
 induction n with
 |zero=>intro i h;omega
 |
  succ n ih=>
  intro i hn hi
  unfold nj at ih ⊢
  rw[aN]
  generalize aK _ n=rec at ih ⊢
  dsimp only
  by_cases h:i<g.length
  ·rw[cU (by omega),eN i,aA (show(i:Int)<(g.length:Int) by omega),bG (by omega)]
   have key:∀v:Bool,∃r,aH (U:=Unit) (Option.bind (α:=Bool) (if(decide (a.1=(2:Int)))=true then(some (!v)) else(if(decide (a.1=(3:Int)))=true then(some (!v)) else(some false))) fun v16=>if v16=true then(cw (some false)) else(rec ((g.length:Int),((i+1:Nat):Int),a,g))) (fun _=>some true)=some r:=by
    intro v
    have h2:∀w:Bool,∃r,aH (U:=Unit) (if w=true then(cw (some false)) else(rec ((g.length:Int),((i+1:Nat):Int),a,g))) (fun _=>some true)=some r:=fun w=>by
     cases w with
     |true=>exact⟨_,rfl⟩
     |false=>exact ih (i+1) (by omega) (by omega)
    split
    ·exact h2 (!v)
    ·split
     ·exact h2 (!v)
     ·exact h2 false
   split
   ·exact key _
   ·exact key _
  ·rw[gn (by omega)]
   exact⟨_,rfl⟩
theorem IF(c:fP)(a:qN)(hN:NB c.1.1)(hU:UO c.1.1):∃r,Ps c a=some r∧(r=true→xl c a.2.1∧xl c a.2.2.1):=by
 have hB:=hB
 unfold Ps
 by_cases h1:a.1<1
 ·rw[cU h1];exact⟨_,rfl,fun h=>(by cases h)⟩
 ·rw[aC (show¬decide (a.1<(1:Int))=true by simpa using h1)]
  by_cases h2:(4:Int)<a.1
  ·rw[cS h2];exact⟨_,rfl,fun h=>(by cases h)⟩
  ·rw[dz h2,aL,aC (by decide),aI]
   dsimp only
   rcases VI c a hN hU [a.2.1,a.2.2.1] (by simp) 3 0 [] (by simp) (by simp) (by simp) (fun y hy=>(by cases hy)) (fun j hj h=>by omega) with⟨g,e,hgl,hg,ht⟩|e
   ·have e':nS (Int.toNat (List.length [a.2.1,a.2.2.1]:Int)+1) ((List.length [a.2.1,a.2.2.1]:Int),0,c,a,[a.2.1,a.2.2.1],([]:List dT))=some (.bA (c,a,g)):=e
    rw[e',aI]
    dsimp only
    have hgl2:g.length≤2:=hgl
    have key:∀x:Zo,(∃r,x=some r)→∃r,x=some r∧(r=true→xl c a.2.1∧xl c a.2.2.1):=fun x ⟨r,hr⟩=>⟨r,hr,fun _=>⟨ht _ (by simp),ht _ (by simp)⟩⟩
    apply key
    have h16:∃r,aH (U:=Unit) (nj (Int.toNat (List.length g:Int)+1) ((List.length g:Int),0,a,g)) (fun _=>some true)=some r:=RL a g (by omega) _ 0 (by omega) (by omega)
    have h3:∀v:Bool,∃r,aH (U:=qN×List dT) (if v=true then(cw (some false)) else(some (.bA (a,g)))) (fun u=>match u with|⟨x,f⟩=>aH (U:=Unit) (nj (Int.toNat (List.length f:Int)+1) ((List.length f:Int),0,x,f)) fun _=>some true)=some r:=fun v=>by
     cases v with
     |true=>exact⟨_,rfl⟩
     |false=>exact h16
    by_cases g0:(g.length:Int)=0
    ·rw[cU g0]
     exact h3 true
    ·rw[aC (show¬decide ((g.length:Int)=(0:Int))=true by simpa using g0)]
     by_cases g2:(g.length:Int)=2
     ·rw[cU g2,aA (by omega),aA (by omega)]
      have m0:=hg _ (dO (t:=fO) (l:=g) (a:=0) (by omega) (by omega))
      have m1:=hg _ (dO (t:=fO) (l:=g) (a:=1) (by omega) (by omega))
      obtain⟨q,hq⟩:=wO c.1 (nth fO g (0:Int)) (nth fO g (1:Int)) m0.1 m0.2 m1.2
      rw[hq]
      exact h3 _
     ·rw[aC (show¬decide ((g.length:Int)=(2:Int))=true by simpa using g2)]
      exact h3 false
   ·have e':nS (Int.toNat (List.length [a.2.1,a.2.2.1]:Int)+1) ((List.length [a.2.1,a.2.2.1]:Int),0,c,a,[a.2.1,a.2.2.1],([]:List dT))=some (.ret false):=e
    rw[e',eT]
    exact⟨_,rfl,fun h=>(by cases h)⟩
structure RK(c:fP):Prop where
 n1:1≤c.2.1.2.2.1.length
 n3:c.2.1.2.2.1.length≤3
 fo:∀j<c.2.1.2.2.1.length,FO c j
 wh:∀a∈c.2.1.2.2.2.1,xl c a.2.1∧xl c a.2.2.1
 h0:0≤c.2.1.2.1
 h1:c.2.1.2.1<(c.1.1.2.2.1.length:Int)
 st:∀s∈c.2.1.2.2.2.2.1,Sy c.1.1 c.2.1.2.1 s.2.1∧xl c s.2.2.1
 sv:∀s∈c.2.1.2.2.2.2.1,s.2.1≠0∧SV c (nth ck (cL c.1.1 c.2.1.2.1) s.2.1).2.1 s.2.2.1
 sd:(c.2.1.2.2.2.2.1.map (·.2.1)).Nodup
 sn:(c.2.1.2.2.2.2.1.length:Int)=aZ (((cL c.1.1 c.2.1.2.1).length:Int) -(1:Int))
theorem VJ(c:fP)(hN:NB c.1.1)(hU:UO c.1.1)(l:ZE)(hl:l.length≤aG):∀(n i:Nat),l.length -i<n→i≤l.length→(∀j(hj:j<l.length),j<i→xl c l[j].2.1∧xl c l[j].2.2.1)→
 (nT n (l,(l.length:Int),(i:Int),c)=some (.bA c)∧∀a∈l,xl c a.2.1∧xl c a.2.2.1)∨nT n (l,(l.length:Int),(i:Int),c)=some (.ret false):=by
 intro n
 have hB:=hB
 induction n with
 |zero=>intro i h;omega
 |
  succ n ih=>
  intro i hn hi hd
  unfold nT at ih ⊢
  rw[aN]
  generalize aK _ n=rec at ih ⊢
  dsimp only
  by_cases h:i<l.length
  ·obtain⟨r,hr,hm⟩:=IF c l[i] hN hU
   rw[cU (by omega),eN i,aA (show(i:Int)<(l.length:Int) by omega),dg (t:=aU) h,bG (by omega),hr,aL]
   cases r with
   |false=>rw[aA (by decide)];exact Or.inr rfl
   |
    true=>
    rw[aC (by decide)]
    exact ih (i+1) (by omega) (by omega) fun j hj hji=>by
     by_cases ej:j=i
     ·subst ej;exact hm rfl
     ·exact hd j hj (by omega)
  ·rw[gn (by omega)]
   refine Or.inl ⟨rfl,fun t ht=>?_⟩
   obtain⟨j,hj,rfl⟩:=jd ht
   exact hd j hj (by omega)
theorem RN(c:fP)(hN:NB c.1.1)(h0:Int)(l:ZG)(hl:l.length*80≤aG):∀(n i:Nat)(g:Zg),l.length -i<n→i≤l.length→g=(l.take i).map (·.2.1)→(∀j(hj:j<l.length),j<i→Sy c.1.1 h0 l[j].2.1∧xl c l[j].2.2.1∧l[j].2.1≠0∧SV c (nth ck (cL c.1.1 h0) l[j].2.1).2.1 l[j].2.2.1)→
 (∃g',kN n (h0,l,(l.length:Int),(i:Int),c,g)=some (.bA g')∧g'=l.map (·.2.1)∧∀s∈l,Sy c.1.1 h0 s.2.1∧xl c s.2.2.1∧s.2.1≠0∧SV c (nth ck (cL c.1.1 h0) s.2.1).2.1 s.2.2.1)∨kN n (h0,l,(l.length:Int),(i:Int),c,g)=some (.ret false):=by
 intro n
 have hB:=hB
 induction n with
 |zero=>intro i g h;omega
 |
  succ n ih=>
  intro i g hn hi hgl hd
  unfold kN at ih ⊢
  rw[aN]
  generalize aK _ n=rec at ih ⊢
  dsimp only
  by_cases h:i<l.length
  ·rw[cU (by omega),eN i,aA (show(i:Int)<(l.length:Int) by omega),dg (t:=bJ) h,bG (by omega)]
   rcases kU c.1 h0 l[i].2.1 with⟨hit,e1⟩|⟨_,y,e1⟩
   ·rw[e1,aL]
    dsimp only
    rw[aC (by decide)]
    by_cases hz:l[i].2.1=0
    ·rw[cU hz,aL,aA rfl];exact Or.inr rfl
    ·obtain⟨r,hr,hm⟩:=Mu c (nth ck (cL c.1.1 h0) l[i].2.1).2.1 l[i].2.2.1 hN
     rw[aC (show¬decide (l[i].2.1=(0:Int))=true by simpa using hz),hr,aL,aL]
     cases r with
     |false=>rw[aA (by decide)];exact Or.inr rfl
     |
      true=>
      rw[aC (by decide),aA (show(g.length+List.length [_])*8≤aG by rw[db,hgl,im,kz];omega)]
      exact ih (i+1) _ (by omega) (by omega) (by rw[hgl,←List.take_append_getElem h,oq];rfl) fun j hj hji=>by
       by_cases ej:j=i
       ·subst ej;exact⟨hit,(hm rfl).1,hz,(hm rfl).2⟩
       ·exact hd j hj (by omega)
   ·rw[e1,aL]
    dsimp only
    rw[aA (by decide),aL,aA rfl];exact Or.inr rfl
  ·rw[gn (by omega)]
   refine Or.inl ⟨g,rfl,by rw[hgl,gJ (by omega)],fun t ht=>?_⟩
   obtain⟨j,hj,rfl⟩:=jd ht
   exact hd j hj (by omega)
theorem IG(c:fP)(hN:NB c.1.1)(hU:UO c.1.1)(hf:c.2.1.2.2.1.length≤aG)(hw:c.2.1.2.2.2.1.length≤aG)(hs:c.2.1.2.2.2.2.1.length*80≤aG):∃r,LF c=some r∧(r=true→RK c):=by
 have hB:=hB
 have no:∀x:Zo,x=some false→∃r,x=some r∧(r=true→RK c):=fun x hx=>⟨false,hx,fun h=>(by cases h)⟩
 unfold LF
 rcases EX c hf with⟨e,h1,h3,hfo⟩|e
 ·rw[e,aL,aC (by decide)]
  by_cases h8:(8:Int)<(c.2.1.2.2.2.1.length:Int)
  ·rw[cS h8];exact no _ rfl
  ·rw[dz h8,aL,aC (by decide),aI]
   rcases VJ c hN hU c.2.1.2.2.2.1 hw (c.2.1.2.2.2.1.length+1) 0 (by omega) (by omega) (fun j hj h=>by omega) with⟨e4,hwh⟩|e4
   ·have e4':nT (Int.toNat (List.length c.2.1.2.2.2.1:Int)+1) (c.2.1.2.2.2.1,(List.length c.2.1.2.2.2.1:Int),0,c)=some (.bA c):=e4
    rw[e4',aI]
    by_cases d1:c.2.1.2.1<0
    ·rw[cU d1];exact no _ rfl
    ·rw[aC (show¬decide (c.2.1.2.1<(0:Int))=true by simpa using d1)]
     by_cases d2:(c.1.1.2.2.1.length:Int)≤c.2.1.2.1
     ·rw[cU d2];exact no _ rfl
     ·rw[aC (show¬decide ((c.1.1.2.2.1.length:Int)≤c.2.1.2.1)=true by simpa using d2),aA (Int.not_lt.1 d1),aA (Int.not_le.1 d2),aL]
      by_cases hsn:(c.2.1.2.2.2.2.1.length:Int)=aZ (((cL c.1.1 c.2.1.2.1).length:Int) -(1:Int))
      rotate_left
      ·unfold cL at hsn
       rw[aA (by simpa using hsn)];exact no _ rfl
      ·have hsn':=hsn
       unfold cL at hsn'
       rw[aC (by simp[hsn']),aI]
       dsimp only
       rcases RN c hN c.2.1.2.1 c.2.1.2.2.2.2.1 hs (c.2.1.2.2.2.2.1.length+1) 0 [] (by omega) (by omega) rfl (fun j hj h=>by omega) with⟨g,e14,hgl,hst⟩|e14
       ·have e14':kN (Int.toNat (List.length c.2.1.2.2.2.2.1:Int)+1) (c.2.1.2.1,c.2.1.2.2.2.2.1,(List.length c.2.1.2.2.2.2.1:Int),0,c,([]:Zg))=some (.bA g):=e14
        rw[e14',aI]
        obtain⟨q,hq,hqd⟩:=Iz g (by rw[hgl,im];omega)
        rw[hq]
        exact⟨q,rfl,fun hq1=>⟨h1,h3,hfo,hwh,Int.not_lt.1 d1,Int.not_le.1 d2,fun s hs=>⟨(hst s hs).1,(hst s hs).2.1⟩,fun s hs=>(hst s hs).2.2,hgl▸hqd hq1,hsn⟩⟩
       ·have e14':kN (Int.toNat (List.length c.2.1.2.2.2.2.1:Int)+1) (c.2.1.2.1,c.2.1.2.2.2.2.1,(List.length c.2.1.2.2.2.2.1:Int),0,c,([]:Zg))=some (.ret false):=e14
        rw[e14',eT];exact no _ rfl
   ·have e4':nT (Int.toNat (List.length c.2.1.2.2.2.1:Int)+1) (c.2.1.2.2.2.1,(List.length c.2.1.2.2.2.1:Int),0,c)=some (.ret false):=e4
    rw[e4',eT];exact no _ rfl
 ·rw[e,aL,aA (by decide)];exact no _ rfl
theorem Mv(x:ZL)(a b:Int)(w:Uz)(c:dJ):∀(n i:Nat),4 -i<n→i≤4→nR n (x,a,b,w,(i:Int),c)=some (.bA (x,a,b,c))∨nR n (x,a,b,w,(i:Int),c)=some (.ret (.ret false)):=by
 intro n
 induction n with
 |zero=>intro i h;omega
 |
  succ n ih=>
  intro i hn hi
  unfold nR at ih ⊢
  rw[aN]
  generalize aK _ n=rec at ih ⊢
  dsimp only
  by_cases h:i<4
  ·rw[cU (by omega),eN i,aA (show(i:Int)<4 by omega),bG (by omega)]
   have h2:∀v:Bool,(if v=true then(cw (cw (some false))) else(rec (x,a,b,w,((i+1:Nat):Int),c)))=some (.bA (x,a,b,c))∨(if v=true then(cw (cw (some false))) else(rec (x,a,b,w,((i+1:Nat):Int),c)))=some (.ret (.ret false)):=fun v=>by
    cases v with
    |true=>exact Or.inr rfl
    |false=>exact ih (i+1) (by omega) (by omega)
   split
   ·exact h2 true
   ·exact h2 _
  ·rw[gn (by omega)]
   exact Or.inl rfl
theorem Mw(c:dJ)(l:ZL)(hl:l.length≤aG)(hn:∀f∈l,(dU f.2.1).length≤aG):∀(n i:Nat),l.length -i<n→i≤l.length→(∀j(hj:j<l.length),j<i→ni c l[j].2.1=some true)→
 (aH (U:=Unit) (t8 n (l,(l.length:Int),(i:Int),c)) (fun _=>some true)=some true∧∀f∈l,ni c f.2.1=some true)∨aH (U:=Unit) (t8 n (l,(l.length:Int),(i:Int),c)) (fun _=>some true)=some false:=by
 intro n
 have hB:=hB
 induction n with
 |zero=>intro i h;omega
 |
  succ n ih=>
  intro i hn' hi hd
  unfold t8 at ih ⊢
  rw[aN]
  generalize aK _ n=rec at ih ⊢
  dsimp only
  by_cases h:i<l.length
  ·obtain⟨r,hr⟩:=pt c l[i].2.1 (hn _ (iQ h))
   rw[cU (by omega),eN i,aA (show(i:Int)<(l.length:Int) by omega),dg (t:=ck) h,hr,aL]
   cases r with
   |false=>rw[aA (by decide)];exact Or.inr rfl
   |
    true=>
    rw[aC (by decide)]
    have e9:=Mv l (l.length:Int) (i:Int) l[i].2.2.1 c (Int.toNat (4:Int)+1) 0 (by decide) (by decide)
    rcases e9 with e9|e9
    ·have e9':nR (Int.toNat (4:Int)+1) (l,(l.length:Int),(i:Int),l[i].2.2.1,0,c)=some (.bA (l,(l.length:Int),(i:Int),c)):=e9
     rw[e9',aI]
     dsimp only
     rw[bG (by omega)]
     exact ih (i+1) (by omega) (by omega) fun j hj hji=>by
      by_cases ej:j=i
      ·subst ej;exact hr
      ·exact hd j hj (by omega)
    ·have e9':nR (Int.toNat (4:Int)+1) (l,(l.length:Int),(i:Int),l[i].2.2.1,0,c)=some (.ret (.ret false)):=e9
     rw[e9',eT]
     exact Or.inr rfl
  ·rw[gn (by omega)]
   refine Or.inl ⟨rfl,fun t ht=>?_⟩
   obtain⟨j,hj,rfl⟩:=jd ht
   exact hd j hj (by omega)
theorem sX(c:dJ)(x:lJ)(hl:x.2.2.2.2.1.length≤aG)(hn:∀f∈x.2.2.2.2.1,(dU f.2.1).length≤aG):∃r,LA c x=some r∧(r=true→(1≤x.2.2.2.2.1.length∧(nth ck x.2.2.2.2.1 (0:Int)).2.1.1=3)∧∀f∈x.2.2.2.2.1,ni c f.2.1=some true):=by
 have no:∀y:Zo,y=some false→∃r,y=some r∧(r=true→(1≤x.2.2.2.2.1.length∧(nth ck x.2.2.2.2.1 (0:Int)).2.1.1=3)∧∀f∈x.2.2.2.2.1,ni c f.2.1=some true):=fun y hy=>⟨false,hy,fun h=>(by cases h)⟩
 unfold LA
 by_cases h1:x.2.2.1<0
 ·rw[cU h1];exact no _ rfl
 ·rw[aC (show¬decide (x.2.2.1<(0:Int))=true by simpa using h1)]
  by_cases h2:(c.1.1.length:Int)≤x.2.2.1
  ·rw[cU h2];exact no _ rfl
  ·rw[aC (show¬decide ((c.1.1.length:Int)≤x.2.2.1)=true by simpa using h2)]
   by_cases h3:x.2.2.2.1<1
   ·rw[cU h3];exact no _ rfl
   ·rw[aC (show¬decide (x.2.2.2.1<(1:Int))=true by simpa using h3)]
    by_cases h4:(255:Int)<x.2.2.2.1
    ·rw[cU h4];exact no _ rfl
    ·rw[aC (show¬decide ((255:Int)<x.2.2.2.1)=true by simpa using h4)]
     by_cases h5:(x.2.2.2.2.1.length:Int)<1
     ·rw[cU h5];exact no _ rfl
     ·rw[aC (show¬decide ((x.2.2.2.2.1.length:Int)<(1:Int))=true by simpa using h5)]
      by_cases h6:(12:Int)<(x.2.2.2.2.1.length:Int)
      ·rw[cU h6];exact no _ rfl
      ·rw[aC (show¬decide ((12:Int)<(x.2.2.2.2.1.length:Int))=true by simpa using h6),aA (show(0:Int)<(x.2.2.2.2.1.length:Int) by omega),aL]
       by_cases h7:(nth ck x.2.2.2.2.1 (0:Int)).2.1.1=3
       rotate_left
       ·rw[aA (by simpa using h7)];exact no _ rfl
       ·rw[aC (by simp[h7]),aI]
        dsimp only
        rcases Mw c x.2.2.2.2.1 hl hn (x.2.2.2.2.1.length+1) 0 (by omega) (by omega) (fun j hj h=>by omega) with⟨e,h⟩|e
        ·exact⟨true,e,fun _=>⟨⟨by omega,h7⟩,h⟩⟩
        ·exact no _ e
theorem xm(c:dJ)(p:oi)(hp:p.2.1.length≤aG):∃r,LG c p=some r:=by
 have hB:=hB
 have key:∀(n i:Nat),p.2.1.length -i<n→i≤p.2.1.length→nU n (p.2.1,(p.2.1.length:Int),(i:Int),c,p)=some (.bA p)∨nU n (p.2.1,(p.2.1.length:Int),(i:Int),c,p)=some (.ret false):=by
  intro n
  induction n with
  |zero=>intro i h;omega
  |
   succ n ih=>
   intro i hn hi
   unfold nU at ih ⊢
   rw[aN]
   generalize aK _ n=rec at ih ⊢
   dsimp only
   by_cases h:i<p.2.1.length
   ·rw[cU (by omega),eN i,aA (show(i:Int)<(p.2.1.length:Int) by omega),bG (by omega)]
    rcases kU c (nth fg p.2.1 (i:Int)).2.2.1 (nth fg p.2.1 (i:Int)).2.2.2.1 with⟨_,e1⟩|⟨_,y,e1⟩
    ·rw[e1,aL]
     dsimp only
     rw[aC (by decide)]
     exact ih (i+1) (by omega) (by omega)
    ·rw[e1,aL]
     exact Or.inr rfl
   ·rw[gn (by omega)]
    exact Or.inl rfl
 unfold LG
 have e:=key (Int.toNat (List.length p.2.1:Int)+1) 0 (by omega) (by omega)
 rcases e with e|e
 ·have e':nU (Int.toNat (List.length p.2.1:Int)+1) (p.2.1,(List.length p.2.1:Int),0,c,p)=some (.bA p):=e
  rw[e',aI]
  refine fu ?_ fun v=>⟨v,rfl⟩
  repeat' (first|exact⟨_,rfl⟩|split)
 ·have e':nU (Int.toNat (List.length p.2.1:Int)+1) (p.2.1,(List.length p.2.1:Int),0,c,p)=some (.ret false):=e
  rw[e',eT]
  exact⟨_,rfl⟩
structure SW(s:cM):Prop where
 np:s.2.1.length≤aG
 dA:s.2.2.1.length≤aG
 rules:s.2.2.2.1.length≤aG
 fv:s.2.2.2.2.2.1.length≤aG
 nb:NB s
 rl:∀r∈s.2.2.2.1,r.2.2.1.length≤aG∧r.2.2.2.1.length≤aG∧r.2.2.2.2.1.length*80≤aG
 may:∀p∈s.2.2.2.2.2.1,p.2.1.length≤aG
structure TG(s:cM):Prop where
 many:s.2.2.1.length≤16
 fields:∀x∈s.2.2.1,1≤x.2.2.2.2.1.length
 ok:∀x∈s.2.2.1,∀f∈x.2.2.2.2.1,ni (s,()) f.2.1=some true
 np:UO s
 rules:∀r∈s.2.2.2.1,RK ((s,()),(r,()))
 self:∀x∈s.2.2.1,(nth ck x.2.2.2.2.1 (0:Int)).2.1.1=3
 uok:∀u∈s.2.1,CD (s,()) u=some true
theorem EY(s:cM)(h:s.2.2.2.2.2.1.length≤aG):∃r,O5 (s,())=some r∧(r=true→s.2.2.1.length≤16):=by
 have no:∀y:Zo,y=some false→∃r,y=some r∧(r=true→s.2.2.1.length≤16):=fun y hy=>⟨false,hy,fun h=>(by cases h)⟩
 unfold O5
 obtain⟨i,hi,_⟩:=adp dY Uf s.2.2.2.2.2.1 (fun p=>decide ((64:Int)<(p.2.1.length:Int))) (fun x _=>rfl) h
 have e1:t6 s.2.2.2.2.2.1=some (decide ((0:Int)≤i)):=by
  unfold t6
  have:zY s.2.2.2.2.2.1=some i:=hi
  rw[this];rfl
 dsimp only
 by_cases h1:(8:Int)<(s.1.length:Int)
 ·rw[cU h1];exact no _ rfl
 ·rw[aC (show¬decide ((8:Int)<(s.1.length:Int))=true by simpa using h1)]
  by_cases h2:(64:Int)<(s.2.1.length:Int)
  ·rw[cU h2];exact no _ rfl
  ·rw[aC (show¬decide ((64:Int)<(s.2.1.length:Int))=true by simpa using h2)]
   by_cases h3:(16:Int)<(s.2.2.1.length:Int)
   ·rw[cU h3];exact no _ rfl
   ·rw[aC (show¬decide ((16:Int)<(s.2.2.1.length:Int))=true by simpa using h3)]
    have yes:∀y:Zo,(∃r,y=some r)→∃r,y=some r∧(r=true→s.2.2.1.length≤16):=fun y ⟨r,hr⟩=>⟨r,hr,fun _=>by omega⟩
    apply yes
    refine fu ?_ fun v=>?_
    ·repeat' (first|exact⟨_,rfl⟩|split)
    ·cases v with
     |true=>exact⟨_,rfl⟩
     |false=>rw[aC (by decide),e1];exact⟨_,rfl⟩
theorem CU(s:cM)(h:s.2.1.length≤aG):∃r,t7 s.2.1 (s,())=some r∧(r=true→∀u∈s.2.1,CD (s,()) u=some true):=by
 have hp:∀x∈s.2.1,qD x (s,())=some (!((CD (s,()) x).getD false),(s,())):=fun x _=>by
  obtain⟨r,hr⟩:=pv (s,()) x
  unfold qD
  rw[hr];rfl
 obtain⟨i,hi,him⟩:=N4 aT qD s.2.1 (s,()) _ hp h
 have e:zZ s.2.1 (s,())=some (i,(s,())):=hi
 unfold t7 z8
 rw[e]
 refine⟨_,rfl,fun hr x hx=>?_⟩
 obtain⟨r,hr2⟩:=pv (s,()) x
 cases r with
 |true=>exact hr2
 |
  false=>
  have:0≤i:=him.2 ⟨x,hx,by rw[hr2];rfl⟩
  simp[this] at hr
theorem AZ(s:cM)(hs:SW s):∃r,t9 s.2.2.1 (s,())=some r∧(r=true→∀x∈s.2.2.1,(1≤x.2.2.2.2.1.length∧(nth ck x.2.2.2.2.1 (0:Int)).2.1.1=3)∧∀f∈x.2.2.2.2.1,ni (s,()) f.2.1=some true):=by
 have hp:∀x∈s.2.2.1,qE x (s,())=some (!((LA (s,()) x).getD false),(s,())):=fun x hx=>by
  obtain⟨r,hr,_⟩:=sX (s,()) x (hs.nb x hx).1 (hs.nb x hx).2
  unfold qE
  rw[hr];rfl
 obtain⟨i,hi,him⟩:=N4 bR qE s.2.2.1 (s,()) _ hp hs.dA
 have e:Ab s.2.2.1 (s,())=some (i,(s,())):=hi
 unfold t9 Ac
 rw[e]
 refine⟨_,rfl,fun hr x hx=>?_⟩
 obtain⟨r,hr2,hm⟩:=sX (s,()) x (hs.nb x hx).1 (hs.nb x hx).2
 cases r with
 |true=>exact hm rfl
 |
  false=>
  have:0≤i:=him.2 ⟨x,hx,by rw[hr2];rfl⟩
  simp[this] at hr
theorem EZ(s:cM)(hs:SW s)(hU:UO s):∃r,ub s.2.2.2.1 (s,())=some r∧(r=true→∀x∈s.2.2.2.1,RK ((s,()),(x,()))):=by
 have hk:=fun x(hx:x∈s.2.2.2.1)=>IG ((s,()),(x,())) hs.nb hU (hs.rl x hx).1 (hs.rl x hx).2.1 (hs.rl x hx).2.2
 have hp:∀x∈s.2.2.2.1,qF x (s,())=some (!((LF ((s,()),(x,()))).getD false),(s,())):=fun x hx=>by
  obtain⟨r,hr,_⟩:=hk x hx
  unfold qF Af
  rw[hr];rfl
 obtain⟨i,hi,him⟩:=N4 bZ qF s.2.2.2.1 (s,()) _ hp hs.rules
 have e:Ag s.2.2.2.1 (s,())=some (i,(s,())):=hi
 unfold ub Ah
 rw[e]
 refine⟨_,rfl,fun hr x hx=>?_⟩
 obtain⟨r,hr2,hm⟩:=hk x hx
 cases r with
 |true=>exact hm rfl
 |
  false=>
  have:0≤i:=him.2 ⟨x,hx,by rw[hr2];rfl⟩
  simp[this] at hr
theorem wP(s:cM)(hs:SW s):∃r,uc s.2.2.2.2.2.1 (s,())=some r:=by
 have hp:∀x∈s.2.2.2.2.2.1,qG x (s,())=some (!((LG (s,()) x).getD false),(s,())):=fun x hx=>by
  obtain⟨r,hr⟩:=xm (s,()) x (hs.may x hx)
  unfold qG
  rw[hr];rfl
 obtain⟨i,hi,_⟩:=N4 dY qG s.2.2.2.2.2.1 (s,()) _ hp hs.fv
 have e:Ai s.2.2.2.2.2.1 (s,())=some (i,(s,())):=hi
 unfold uc Aj
 rw[e];exact⟨_,rfl⟩
theorem yA(s:cM)(hs:SW s):∃r,LJ s=some r∧(r=0→TG s):=by
 have no:∀(y:ZW)(z:Int),z≠0→y=some z→∃r,y=some r∧(r=0→TG s):=fun y z hz hy=>⟨z,hy,fun h=>absurd h hz⟩
 unfold LJ
 obtain⟨b,hb,hbm⟩:=EY s hs.fv
 rw[hb,aL]
 cases b with
 |false=>rw[aA (by decide)];exact no _ 2 (by decide) rfl
 |
  true=>
  rw[aC (by decide)]
  obtain⟨b1,hb1,hm1⟩:=CU s hs.np
  rw[hb1,aL]
  cases b1 with
  |false=>exact no _ 120 (by decide) rfl
  |
   true=>
   rw[aC (by decide)]
   obtain⟨b2,hb2,hm2⟩:=AZ s hs
   rw[hb2,aL]
   cases b2 with
   |false=>exact no _ 120 (by decide) rfl
   |
    true=>
    rw[aC (by decide)]
    have hU:UO s:=fun x hx f hf h1=>sV ((hm2 rfl x hx).2 f hf) h1
    obtain⟨b3,hb3,hm3⟩:=EZ s hs hU
    rw[hb3,aL]
    cases b3 with
    |false=>exact no _ 120 (by decide) rfl
    |
     true=>
     rw[aC (by decide)]
     obtain⟨b4,hb4⟩:=wP s hs
     rw[hb4,aL,aL]
     cases b4 with
     |false=>exact no _ 120 (by decide) rfl
     |true=>exact⟨0,rfl,fun _=>⟨hbm rfl,fun x hx=>(hm2 rfl x hx).1.1,fun x hx=>(hm2 rfl x hx).2,hU,hm3 rfl,fun x hx=>(hm2 rfl x hx).1.2,hm1 rfl⟩⟩
structure SS(s:cM):Prop where
 nZ:s.1.length≤aG
 np:s.2.1.length≤aG
 dA:s.2.2.1.length≤aG
 rules:s.2.2.2.1.length≤aG
 iX:s.2.2.2.2.1.length≤aG
 fv:s.2.2.2.2.2.1.length≤aG
 fields:∀x∈s.2.2.1,x.2.2.2.2.1.length≤aG∧∀f∈x.2.2.2.2.1,(dU f.2.1).length≤aG
 A0:∀x∈s.2.2.1,x.2.2.2.2.2.1.length≤aG∧∀d∈x.2.2.2.2.2.1,d.1.length≤aG∧d.2.2.1.length≤aG
 rl:∀r∈s.2.2.2.1,r.2.2.1.length≤aG∧r.2.2.2.1.length≤aG∧r.2.2.2.2.1.length≤aG
 mv:∀c∈s.2.2.2.2.1,c.2.2.2.2.1.length≤aG
 may:∀p∈s.2.2.2.2.2.1,p.2.1.length≤aG
theorem VK(x y:ZQ)(hl:y.length≤aG):∃r,BC x y=some r:=N5 .str (fun a b=>decide (a=b)) x y fun e=>e▸hl
theorem ajn(x y:Zg)(hl:y.length≤aG):∃r,MH x y=some r:=N5 (.int .i64) (fun a b=>decide (a=b)) x y fun e=>e▸hl
theorem wQ(a b:Ih)(h:(dU b.2.1).length≤aG):∃r,JC a b=some r:=by
 obtain⟨q,hq⟩:=VK (dU a.2.1) (dU b.2.1) h
 unfold JC
 refine fu ?_ fun v=>⟨v,rfl⟩
 unfold dU at hq
 simp only[hq,aL]
 repeat' (first|exact⟨_,rfl⟩|split)
theorem tx(a b:wI)(h:b.1.length≤aG)(h2:b.2.2.1.length≤aG):∃r,JD a b=some r:=by
 obtain⟨q,hq⟩:=VK a.1 b.1 h
 obtain⟨q2,hq2⟩:=ajn a.2.2.1 b.2.2.1 h2
 unfold JD
 refine fu ?_ fun v=>⟨v,rfl⟩
 simp only[hq,hq2,aL]
 repeat' (first|exact⟨_,rfl⟩|split)
theorem tA(a b:lJ)(h1:b.2.2.2.2.1.length≤aG∧∀f∈b.2.2.2.2.1,(dU f.2.1).length≤aG)(h2:b.2.2.2.2.2.1.length≤aG∧∀d∈b.2.2.2.2.2.1,d.1.length≤aG∧d.2.2.1.length≤aG):∃r,JE a b=some r:=by
 obtain⟨q,hq⟩:∃r,yP a.2.2.2.2.1 b.2.2.2.2.1=some r:=Wl ck JC _ _ (fun x _ y hy=>wQ x y (h1.2 y hy)) fun e=>e▸h1.1
 obtain⟨q2,hq2⟩:∃r,yR a.2.2.2.2.2.1 b.2.2.2.2.2.1=some r:=Wl fH JD _ _ (fun x _ y hy=>tx x y (h2.2 y hy).1 (h2.2 y hy).2) fun e=>e▸h2.1
 unfold JE
 refine fu ?_ fun v=>⟨v,rfl⟩
 simp only[hq,hq2,aL]
 repeat' (first|exact⟨_,rfl⟩|split)
theorem xn(a b:dD)(h:b.2.2.1.length≤aG∧b.2.2.2.1.length≤aG∧b.2.2.2.2.1.length≤aG):∃r,Lv a b=some r:=by
 obtain⟨q1,hq1⟩:∃r,Tg a.2.2.1 b.2.2.1=some r:=N5 aO (fun x y=>bD aO x y) _ _ fun e=>e▸h.1
 obtain⟨q2,hq2⟩:∃r,Th a.2.2.2.1 b.2.2.2.1=some r:=N5 aU (fun x y=>bD aU x y) _ _ fun e=>e▸h.2.1
 obtain⟨q3,hq3⟩:∃r,Ti a.2.2.2.2.1 b.2.2.2.2.1=some r:=N5 bJ (fun x y=>bD bJ x y) _ _ fun e=>e▸h.2.2
 unfold Lv
 refine fu ?_ fun v=>⟨v,rfl⟩
 simp only[hq1,hq2,hq3,aL]
 repeat' (first|exact⟨_,rfl⟩|split)
theorem sa(a b:rW)(h:b.2.2.2.2.1.length≤aG):∃r,Lw a b=some r:=by
 obtain⟨q1,hq1⟩:∃r,Ud a.2.2.2.2.1 b.2.2.2.2.1=some r:=N5 aT (fun x y=>bD aT x y) _ _ fun e=>e▸h
 unfold Lw
 refine fu ?_ fun v=>⟨v,rfl⟩
 simp only[hq1,aL]
 repeat' (first|exact⟨_,rfl⟩|split)
theorem sc(a b:oi)(h:b.2.1.length≤aG):∃r,Lx a b=some r:=by
 obtain⟨q1,hq1⟩:∃r,Ue a.2.1 b.2.1=some r:=N5 fg (fun x y=>bD fg x y) _ _ fun e=>e▸h
 unfold Lx
 refine fu ?_ fun v=>⟨v,rfl⟩
 simp only[hq1,aL]
 repeat' (first|exact⟨_,rfl⟩|split)
theorem CV(a s:cM)(hs:SS s):∃r,Ly a s=some r:=by
 obtain⟨q1,hq1⟩:=VK a.1 s.1 hs.nZ
 obtain⟨q2,hq2⟩:∃r,Tf a.2.1 s.2.1=some r:=N5 aT (fun x y=>bD aT x y) _ _ fun e=>e▸hs.np
 obtain⟨q3,hq3⟩:∃r,yS a.2.2.1 s.2.2.1=some r:=Wl bR JE _ _ (fun x _ y hy=>tA x y (hs.fields y hy) (hs.A0 y hy)) fun e=>e▸hs.dA
 obtain⟨q4,hq4⟩:∃r,zV a.2.2.2.1 s.2.2.2.1=some r:=Wl bZ Lv _ _ (fun x _ y hy=>xn x y (hs.rl y hy)) fun e=>e▸hs.rules
 obtain⟨q5,hq5⟩:∃r,zW a.2.2.2.2.1 s.2.2.2.2.1=some r:=Wl gA Lw _ _ (fun x _ y hy=>sa x y (hs.mv y hy)) fun e=>e▸hs.iX
 obtain⟨q6,hq6⟩:∃r,zX a.2.2.2.2.2.1 s.2.2.2.2.2.1=some r:=Wl dY Lx _ _ (fun x _ y hy=>sc x y (hs.may y hy)) fun e=>e▸hs.fv
 unfold Ly
 refine fu ?_ fun v=>⟨v,rfl⟩
 simp only[hq1,hq2,hq3,hq4,hq5,hq6,aL]
 repeat' (first|exact⟨_,rfl⟩|split)
theorem wR(a b:Int)(h:0≤b):∃r,PQ a b=some r:=⟨_,aA h⟩
theorem aal(m:Int)(d:wI)(l:Zg)(hl:l.length≤aG):∀(n i:Nat)(e:Int),l.length -i<n→i≤l.length→(∃e',nV n (m,e,l,(l.length:Int),(i:Int),d)=some (.bA (m,e',d)))∨nV n (m,e,l,(l.length:Int),(i:Int),d)=some (.ret false):=by
 intro n
 have hB:=hB
 induction n with
 |zero=>intro i e h;omega
 |
  succ n ih=>
  intro i e hn hi
  unfold nV at ih ⊢
  rw[aN]
  generalize aK _ n=rec at ih ⊢
  dsimp only
  by_cases h:i<l.length
  ·rw[cU (by omega),eN i,aA (show(i:Int)<(l.length:Int) by omega),bG (by omega)]
   by_cases h0:nth (.int .i64) l (i:Int)<(0:Int)
   ·rw[cU h0];exact Or.inr rfl
   ·rw[aC (show¬decide (nth (.int .i64) l (i:Int)<(0:Int))=true by simpa using h0)]
    obtain⟨q,hq⟩:=wR e (nth (.int .i64) l (i:Int)) (Int.not_lt.1 h0)
    rw[hq]
    have key:∀v:Bool,(∃e',(if v=true then(cw (some false)) else(if 0≤(nth (.int .i64) l (i:Int)) then(rec (m,iv .or .u64 e (IntKind.u64.wrap ((1:Int)*2^(min (Int.toNat (nth (.int .i64) l (i:Int))) 64))),l,(l.length:Int),((i+1:Nat):Int),d)) else none))=some (.bA (m,e',d)))∨(if v=true then(cw (some false)) else(if 0≤(nth (.int .i64) l (i:Int)) then(rec (m,iv .or .u64 e (IntKind.u64.wrap ((1:Int)*2^(min (Int.toNat (nth (.int .i64) l (i:Int))) 64))),l,(l.length:Int),((i+1:Nat):Int),d)) else none))=some (.ret false):=fun v=>by
     cases v with
     |true=>exact Or.inr rfl
     |
      false=>
      rw[aC (by decide),aA (Int.not_lt.1 h0)]
      exact ih (i+1) _ (by omega) (by omega)
    split
    ·exact key true
    ·exact key q
  ·rw[gn (by omega)]
   exact Or.inl ⟨e,rfl⟩
theorem A1(d:wI)(m:Int)(hl:d.2.2.1.length≤aG):∃r,PR d m=some r:=by
 unfold PR
 have e:=aal m d d.2.2.1 hl (Int.toNat (List.length d.2.2.1:Int)+1) 0 0 (by omega) (by omega)
 rcases e with⟨e',e⟩|e
 ·have h:nV (Int.toNat (List.length d.2.2.1:Int)+1) (m,0,d.2.2.1,(List.length d.2.2.1:Int),0,d)=some (.bA (m,e',d)):=e
  rw[h,aI]
  dsimp only
  refine fu ?_ fun v=>⟨v,rfl⟩
  by_cases h0:0≤d.2.2.2.1
  ·obtain⟨q,hq⟩:=wR e' d.2.2.2.1 h0
   rw[hq]
   repeat' (first|exact⟨_,rfl⟩|split)
  ·rw[aC (show¬decide ((0:Int)≤d.2.2.2.1)=true by simpa using h0)]
   repeat' (first|exact⟨_,rfl⟩|split)
 ·have h:nV (Int.toNat (List.length d.2.2.1:Int)+1) (m,0,d.2.2.1,(List.length d.2.2.1:Int),0,d)=some (.ret false):=e
  rw[h,eT]
  exact⟨_,rfl⟩
theorem aam(x:lJ)(l:EG)(hl:l.length≤aG)(hd:∀d∈l,d.2.2.1.length≤aG):∀(n i:Nat),l.length -i<n→i≤l.length→∃r,aH (U:=Unit) (qH n (l,(l.length:Int),(i:Int),x)) (fun _=>some (0:Int))=some r:=by
 intro n
 have hB:=hB
 induction n with
 |zero=>intro i h;omega
 |
  succ n ih=>
  intro i hn hi
  unfold qH at ih ⊢
  rw[aN]
  generalize aK _ n=rec at ih ⊢
  dsimp only
  by_cases h:i<l.length
  ·obtain⟨r,hr⟩:=A1 l[i] (x.2.2.2.2.1.length:Int) (hd _ (iQ h))
   rw[cU (by omega),eN i,aA (show(i:Int)<(l.length:Int) by omega),dg (t:=fH) h,bG (by omega),hr,aL]
   cases r with
   |false=>exact⟨_,rfl⟩
   |true=>rw[aC (by decide)];exact ih (i+1) (by omega) (by omega)
  ·rw[gn (by omega)]
   exact⟨_,rfl⟩
theorem A2(x:lJ)(hl:x.2.2.2.2.2.1.length≤aG)(hd:∀d∈x.2.2.2.2.2.1,d.2.2.1.length≤aG):∃r,PT x=some r:=by
 unfold PT
 have h4:∃r,aH (U:=Unit) (qH (Int.toNat (List.length x.2.2.2.2.2.1:Int)+1) (x.2.2.2.2.2.1,(List.length x.2.2.2.2.2.1:Int),0,x)) (fun _=>some (0:Int))=some r:=aam x _ hl hd _ 0 (by omega) (by omega)
 have h2:∀v:Bool,∃r,aH (U:=lJ) (if v=true then(cw (some (130:Int))) else(some (.bA x))) (fun v1=>aH (U:=Unit) (qH (Int.toNat (List.length v1.2.2.2.2.2.1:Int)+1) (v1.2.2.2.2.2.1,(List.length v1.2.2.2.2.2.1:Int),0,v1)) fun _=>some (0:Int))=some r:=fun v=>by
  cases v with
  |true=>exact⟨_,rfl⟩
  |false=>exact h4
 split
 ·exact h2 true
 ·split
  ·exact h2 true
  ·exact h2 _
theorem wS(s:cM)(hs:SS s):∃r,Uk s=some r:=by
 have hB:=hB
 have key:∀(n i:Nat),s.2.2.1.length -i<n→i≤s.2.2.1.length→∃r,aH (U:=Unit) (Ak n (s.2.2.1,(s.2.2.1.length:Int),(i:Int))) (fun _=>some (0:Int))=some r:=by
  intro n
  have hl:=hs.dA
  induction n with
  |zero=>intro i h;omega
  |
   succ n ih=>
   intro i hn hi
   unfold Ak at ih ⊢
   rw[aN]
   generalize aK _ n=rec at ih ⊢
   dsimp only
   by_cases h:i<s.2.2.1.length
   ·have hd:=hs.A0 _ (iQ h)
    obtain⟨r,hr⟩:=A2 s.2.2.1[i] hd.1 fun d hdm=>(hd.2 d hdm).2
    rw[cU (by omega),eN i,aA (show(i:Int)<(s.2.2.1.length:Int) by omega),dg (t:=bR) h,bG (by omega),hr,aL]
    split
    ·exact⟨_,rfl⟩
    ·exact ih (i+1) (by omega) (by omega)
   ·rw[gn (by omega)]
    exact⟨_,rfl⟩
 exact key _ 0 (by omega) (by omega)
theorem IH(l:Zg)(m:Int)(hl:l.length≤1000000):∃b d,yE l m []=some (b,d):=by
 have hB:=hB
 have key:∀(n i:Nat)(d:Zu),l.length -i<n→i≤l.length→d.length≤i→∃b d',aH (U:=Zg×Int×Zu) (oI n (l,m,l,(l.length:Int),(i:Int),d)) (fun u=>match u with|⟨a,b,c⟩=>some (decide ((List.length a:Int)=b),c))=some (b,d'):=by
  intro n
  induction n with
  |zero=>intro i d h;omega
  |
   succ n ih=>
   intro i d hn hi hd
   unfold oI at ih ⊢
   rw[aN]
   generalize aK _ n=rec at ih ⊢
   dsimp only
   by_cases h:i<l.length
   ·rw[cU (by omega),eN i,aA (show(i:Int)<(l.length:Int) by omega)]
    split
    ·exact⟨_,_,rfl⟩
    ·rw[aA (by omega),bG (by omega)]
     exact ih (i+1) _ (by omega) (by omega) (cI (dt (kt:=.int .i64)) (by omega))
   ·rw[gn (by omega)]
    exact⟨_,_,rfl⟩
 exact key _ 0 [] (by omega) (by omega) (by simp)
theorem r9.len{s:cM}{l:Zg}(h:r9 s l):l.length≤s.2.2.1.length:=gB _ l h.n6 fun x hx=>(h.all x).1 hx
theorem TG.sb{s:cM}(h:TG s)(hs:SW s):SB s:=⟨by have:=h.many;omega,hs.rules,fun r hr=>(hs.rl r hr).1⟩
theorem II(s:cM)(hs:SW s):∃r,MP s=some r∧(r=0→TG s):=by
 unfold MP
 obtain⟨r,hr,hm⟩:=yA s hs
 rw[hr,aL]
 by_cases h:r=0
 ·rw[aC (by simp[h])]
  have hT:=hm h
  obtain⟨l,ok,e,ho,_⟩:=CS (hT.sb hs)
  rw[ho,aL]
  have yes:∀y:ZW,(∃z,y=some z)→∃z,y=some z∧(z=0→TG s):=fun y ⟨z,hz⟩=>⟨z,hz,fun _=>hT⟩
  apply yes
  dsimp only
  repeat' (first|exact⟨_,rfl⟩|split)
 ·rw[aA (by simp[h])]
  exact⟨r,rfl,fun h'=>absurd h' h⟩
theorem E6(s:cM)(hs:SW s):∃r,MT s=some r∧(r=0→TG s∧∃l,Be s=some (l,true,0)∧r9 s l):=by
 unfold MT
 obtain⟨r,hr,hm⟩:=II s hs
 rw[hr,aL]
 by_cases h:r=0
 ·rw[aC (by simp[h])]
  have hT:=hm h
  obtain⟨l,ok,e,ho,hk⟩:=CS (hT.sb hs)
  rw[ho,aL]
  dsimp only
  by_cases he:e=0
  ·subst he
   rw[aC (by decide)]
   cases ok with
   |false=>rw[aA (by decide)];exact⟨141,rfl,fun h'=>absurd h' (by decide)⟩
   |
    true=>
    rw[aC (by decide)]
    have hR:=hk rfl rfl fun r hr=>⟨(hT.rules r hr).h0,(hT.rules r hr).h1⟩
    obtain⟨b,d,hw⟩:=IH l (s.2.2.1.length:Int) (by have:=hR.len;have:=hT.many;omega)
    rw[hw,aL]
    have yes:∀y:ZW,(∃z,y=some z)→∃z,y=some z∧(z=0→TG s∧∃l',some (l,true,(0:Int))=some (l',true,0)∧r9 s l'):=fun y ⟨z,hz⟩=>⟨z,hz,fun _=>⟨hT,l,rfl,hR⟩⟩
    apply yes
    dsimp only
    repeat' (first|exact⟨_,rfl⟩|split)
  ·rw[aA (by simp[he])]
   exact⟨e,rfl,fun h'=>absurd h' he⟩
 ·rw[aA (by simp[h])]
  exact⟨r,rfl,fun h'=>absurd h' h⟩
theorem sf(s:cM)(hN:NB s)(a b v:Int):∃r,Hc s a b v=some r:=by
 unfold Hc
 rcases kU (s,()) a b with⟨hi,e⟩|⟨_,y,e⟩
 ·rw[e,aL]
  dsimp only
  rw[aA rfl]
  have hm:=hi.mem
  obtain⟨q,hq⟩:=pt (s,()) (nth ck (cL s a) b).2.1 ((hN _ hm.1).2 _ hm.2)
  refine fu ?_ fun v=>⟨v,rfl⟩
  have hq':ni (s,()) (nth ck (cL (s,()).1 a) b).2.1=some q:=hq
  rw[hq',aL]
  repeat' (first|exact⟨_,rfl⟩|split)
 ·rw[e,aL]
  exact⟨_,rfl⟩
theorem yB(s:cM)(hN:NB s)(a:Int):∃r,I4 s a=some r∧(r=true→0≤a∧a<(s.2.2.1.length:Int)):=by
 have hB:=hB
 have no:∀y:Zo,y=some false→∃r,y=some r∧(r=true→0≤a∧a<(s.2.2.1.length:Int)):=fun y hy=>⟨false,hy,fun h=>(by cases h)⟩
 unfold I4
 by_cases h0:a<0
 ·rw[cU h0];exact no _ rfl
 ·rw[aC (show¬decide (a<(0:Int))=true by simpa using h0)]
  by_cases h1:(s.2.2.1.length:Int)≤a
  ·rw[cS h1];exact no _ rfl
  ·rw[dz h1,aL,aC (by decide),aI]
   dsimp only
   rw[aA (Int.not_lt.1 h0),aA (Int.not_le.1 h1)]
   have yes:∀y:Zo,(∃z,y=some z)→∃z,y=some z∧(z=true→0≤a∧a<(s.2.2.1.length:Int)):=fun y ⟨z,hz⟩=>⟨z,hz,fun _=>⟨Int.not_lt.1 h0,Int.not_le.1 h1⟩⟩
   apply yes
   have hl:=(hN _ (dO (t:=bR) (l:=s.2.2.1) (a:=a) (Int.not_lt.1 h0) (Int.not_le.1 h1))).1
   generalize (nth bR s.2.2.1 a).2.2.2.2.1=l at hl ⊢
   have key:∀(n i:Nat),l.length -i<n→i≤l.length→nr n (a,l,l,(l.length:Int),(i:Int),s)=some (.bA l)∨nr n (a,l,l,(l.length:Int),(i:Int),s)=some (.ret false):=by
    intro n
    induction n with
    |zero=>intro i h;omega
    |
     succ n ih=>
     intro i hn hi
     unfold nr at ih ⊢
     rw[aN]
     generalize aK _ n=rec at ih ⊢
     dsimp only
     by_cases h:i<l.length
     ·rw[cU (by omega),eN i,aA (show(i:Int)<(l.length:Int) by omega),bG (by omega)]
      obtain⟨q,hq⟩:=sf s hN a (i:Int) (nth ck l (i:Int)).2.1.2.1
      rw[hq,aL]
      cases q with
      |false=>exact Or.inr rfl
      |true=>rw[aC (by decide)];exact ih (i+1) (by omega) (by omega)
     ·rw[gn (by omega)]
      exact Or.inl rfl
   have e:=key (Int.toNat (List.length l:Int)+1) 0 (by omega) (by omega)
   rcases e with e|e
   ·have e':nr (Int.toNat (List.length l:Int)+1) (a,l,l,(List.length l:Int),0,s)=some (.bA l):=e
    rw[e',aI]
    refine fu ?_ fun v=>⟨v,rfl⟩
    by_cases hp:(0:Int)<(l.length:Int)
    ·rw[cU hp,aA hp];exact⟨_,rfl⟩
    ·rw[aC (show¬decide ((0:Int)<(l.length:Int))=true by simpa using hp)];exact⟨_,rfl⟩
   ·have e':nr (Int.toNat (List.length l:Int)+1) (a,l,l,(List.length l:Int),0,s)=some (.ret false):=e
    rw[e',eT];exact⟨_,rfl⟩
theorem Mx(a b:dT)(n:Int):∃r,I5 a b n=some r:=by
 unfold I5
 by_cases h1:a.1=b.1
 ·rw[aC (by simp[h1])]
  by_cases e1:a.1=1
  ·rw[cU e1,aL,aA rfl]
   repeat' (first|exact⟨_,rfl⟩|split)
  ·rw[aC (show¬decide (a.1=(1:Int))=true by simpa using e1)]
   by_cases e2:a.1=2
   ·rw[cS e2,aL,aA rfl]
    repeat' (first|exact⟨_,rfl⟩|split)
   ·rw[dz e2,aL,aC (by decide),aI]
    dsimp only
    refine fu ?_ fun v=>⟨v,rfl⟩
    repeat' (first|exact⟨_,rfl⟩|split)
 ·rw[aA (by simp[h1])];exact⟨_,rfl⟩
theorem aan(l m:ZL)(k:Zz)(hk:k.length≤aG):∀(n i:Nat)(N O:List Bool),k.length -i<n→i≤k.length→N.length=l.length→O.length=m.length→
 ∃r,aH (U:=Unit) (py n (l,m,k,(k.length:Int),(i:Int),N,O)) (fun _=>some true)=some r:=by
 intro n
 have hB:=hB
 induction n with
 |zero=>intro i N O h;omega
 |
  succ n ih=>
  intro i N O hn hi hN hO
  unfold py at ih ⊢
  rw[aN]
  generalize aK _ n=rec at ih ⊢
  dsimp only
  by_cases h:i<k.length
  ·rw[cU (by
    omega),eN i,aA (show(i:Int)<(k.length:Int) by omega)]
   generalize nth aT k (i:Int)=mv
   by_cases h1:mv.2.2.2.1<(1:Int)
   ·rw[cU h1];exact⟨_,rfl⟩
   ·rw[aC (show¬decide (mv.2.2.2.1<(1:Int))=true by simpa using h1)]
    by_cases h2:(l.length:Int)≤mv.2.2.2.1
    ·rw[cU h2];exact⟨_,rfl⟩
    ·rw[aC (show¬decide ((l.length:Int)≤mv.2.2.2.1)=true by simpa using h2)]
     by_cases h3:mv.2.2.1<(1:Int)
     ·rw[cU h3];exact⟨_,rfl⟩
     ·rw[aC (show¬decide (mv.2.2.1<(1:Int))=true by simpa using h3)]
      by_cases h4:(m.length:Int)≤mv.2.2.1
      ·rw[cU h4];exact⟨_,rfl⟩
      ·rw[aC (show¬decide ((m.length:Int)≤mv.2.2.1)=true by simpa using h4)]
       have p0:(0:Int)≤mv.2.2.2.1:=Int.le_trans (by decide) (Int.not_lt.1 h1)
       have p1:mv.2.2.2.1<(l.length:Int):=Int.not_le.1 h2
       have q0:(0:Int)≤mv.2.2.1:=Int.le_trans (by decide) (Int.not_lt.1 h3)
       have q1:mv.2.2.1<(m.length:Int):=Int.not_le.1 h4
       have p2:mv.2.2.2.1<(N.length:Int):=by rw[hN];exact p1
       have q2:mv.2.2.1<(O.length:Int):=by rw[hO];exact q1
       rw[aA p0,aA p2]
       have key:∀v:Bool,∃r,aH (U:=Unit) (aH (U:=ZL×ZL×Zz×Int×Int×gQ×List Bool×List Bool) (if v=true then(cw (cw (some false))) else(some (.bA (l,m,k,(k.length:Int),(i:Int),mv,N,O)))) fun u=>match u with|⟨d,e,f,g,h,a,b,c⟩=>if 0≤a.2.2.2.1 then(if a.2.2.2.1<(List.length b:Int) then(if 0≤a.2.2.1 then(if a.2.2.1<(List.length c:Int) then(if 0≤a.2.2.2.1 then(if a.2.2.2.1<(List.length d:Int) then(if 0≤a.2.2.1 then(if a.2.2.1<(List.length e:Int) then(Option.bind (I5 (((nth ck d a.2.2.2.1).2).1) (((nth ck e a.2.2.1).2).1) a.2.2.2.2.1) fun y12=>if(!y12)=true then(cw (some false)) else(rec (d,e,f,g,aZ (h+(1:Int)),List.set b (Int.toNat a.2.2.2.1) true,List.set c (Int.toNat a.2.2.1) true))) else none) else none) else none) else none) else none) else none) else none) else none) (fun _=>some true)=some r:=fun v=>by
        cases v with
        |true=>exact⟨_,rfl⟩
        |
         false=>
         rw[aC (by decide),aI]
         dsimp only
         rw[aA p0,aA p2,aA q0,aA q2,aA p0,aA p1,aA q0,aA q1]
         obtain⟨z,hz⟩:=Mx ((nth ck l mv.2.2.2.1).2).1 ((nth ck m mv.2.2.1).2).1 mv.2.2.2.2.1
         rw[hz,aL]
         cases z with
         |false=>exact⟨_,rfl⟩
         |
          true=>
          rw[aC (by decide),bG (by omega)]
          exact ih (i+1) _ _ (by omega) (by omega) (by rw[cj];exact hN) (by rw[cj];exact hO)
       split
       ·exact key true
       ·exact key _
  ·rw[gn (by omega)]
   exact⟨_,rfl⟩
theorem E7(s:cM)(hN:NB s)(c:rW)(hc:c.2.2.2.2.1.length≤aG):∃r,MU s c=some r:=by
 have hB:=hB
 unfold MU
 by_cases h0:c.2.2.1=c.2.2.2.1
 ·rw[cU h0];exact⟨_,rfl⟩
 ·rw[aC (show¬decide (c.2.2.1=c.2.2.2.1)=true by simpa using h0)]
  obtain⟨r1,e1,m1⟩:=yB s hN c.2.2.1
  rw[e1,aL]
  cases r1 with
  |false=>exact⟨_,rfl⟩
  |
   true=>
   rw[aC (by decide)]
   obtain⟨r2,e2,m2⟩:=yB s hN c.2.2.2.1
   rw[e2,aL,aL]
   cases r2 with
   |false=>exact⟨_,rfl⟩
   |
    true=>
    rw[aC (by decide),aI]
    dsimp only
    have a1:=m1 rfl
    have a2:=m2 rfl
    rw[aA a1.1,aA a1.2,aA a2.1,aA a2.2]
    have l1:=(hN _ (dO (t:=bR) (l:=s.2.2.1) a1.1 a1.2)).1
    have l2:=(hN _ (dO (t:=bR) (l:=s.2.2.1) a2.1 a2.2)).1
    generalize (nth bR s.2.2.1 c.2.2.1).2.2.2.2.1=l at l1 ⊢
    generalize (nth bR s.2.2.1 c.2.2.2.1).2.2.2.2.1=m at l2 ⊢
    have h8:∃r,aH (U:=Unit) (py (Int.toNat (List.length c.2.2.2.2.1:Int)+1) (l,m,c.2.2.2.2.1,(List.length c.2.2.2.2.1:Int),0,List.replicate (Int.toNat (List.length l:Int)) false,List.replicate (Int.toNat (List.length m:Int)) false)) (fun _=>some true)=some r:=
     aan l m c.2.2.2.2.1 hc _ 0 _ _ (by omega) (by omega) (by rw[jC,ew]) (by rw[jC,ew])
    have key:∀v:Bool,∃r,aH (U:=ZL×ZL×rW) (if v=true then(cw (some false)) else(some (.bA (l,m,c)))) (fun u=>match u with|⟨c,d,e⟩=>if 0≤(List.length c:Int) then(if(List.length c:Int)≤(List.length c:Int) then(if(List.length c:Int)*(1:Int)≤(aG:Int) then(if 0≤(List.length d:Int) then(if(List.length d:Int)≤(List.length d:Int) then(if(List.length d:Int)*(1:Int)≤(aG:Int) then(aH (U:=Unit) (py (Int.toNat (List.length e.2.2.2.2.1:Int)+1) (c,d,e.2.2.2.2.1,(List.length e.2.2.2.2.1:Int),0,List.replicate (Int.toNat (List.length c:Int)) false,List.replicate (Int.toNat (List.length d:Int)) false)) fun _=>some true) else none) else none) else none) else none) else none) else none)=some r:=fun v=>by
     cases v with
     |true=>exact⟨_,rfl⟩
     |
      false=>
      rw[aC (by decide),aI]
      dsimp only
      rw[eN _,aA (jU _),aA (by omega),eN _,aA (jU _),aA (by omega)]
      exact h8
    split
    ·exact key true
    ·exact key _
theorem E8(s:cM)(hN:NB s)(hs:SS s):∃r,SF s=some r:=by
 have hB:=hB
 have hl:=hs.iX
 have key:∀(n i:Nat),s.2.2.2.2.1.length -i<n→i≤s.2.2.2.2.1.length→∃r,aH (U:=Unit) (yF n (s.2.2.2.2.1,(s.2.2.2.2.1.length:Int),(i:Int),s)) (fun _=>some (0:Int))=some r:=by
  intro n
  induction n with
  |zero=>intro i h;omega
  |
   succ n ih=>
   intro i hn hi
   unfold yF at ih ⊢
   rw[aN]
   generalize aK _ n=rec at ih ⊢
   dsimp only
   by_cases h:i<s.2.2.2.2.1.length
   ·obtain⟨r,hr⟩:=E7 s hN s.2.2.2.2.1[i] (hs.mv _ (iQ h))
    rw[cU (by omega),eN i,aA (show(i:Int)<(s.2.2.2.2.1.length:Int) by omega),dg (t:=gA) h,bG (by omega),hr,aL]
    cases r with
    |false=>exact⟨_,rfl⟩
    |true=>rw[aC (by decide)];exact ih (i+1) (by omega) (by omega)
   ·rw[gn (by omega)]
    exact⟨_,rfl⟩
 exact key _ 0 (by omega) (by omega)
theorem IJ(l:ZQ)(hl:l.length≤aG):∃M b,VR l.length M∧Aq l=some (some M,b):=kE .str P7 (fun x=>x) (fun _=>rfl) l hl
theorem E9(l:Zz)(hl:l.length≤aG):∃M b,VR l.length M∧Ar l=some (some M,b):=kE aT Qa (fun x=>x.1) (fun _=>rfl) l hl
theorem A3(l:ZK)(hl:l.length≤aG):∃M b,VR l.length M∧As l=some (some M,b):=kE bR Qd (fun x=>x.1) (fun _=>rfl) l hl
theorem xo(l:ZI)(hl:l.length≤aG):∃M b,VR l.length M∧At l=some (some M,b):=kE dY Qg (fun x=>x.1) (fun _=>rfl) l hl
theorem CW(l:ZL)(hl:l.length≤aG):∃M b,VR l.length M∧Au l=some (some M,b):=kE ck Qj (fun x=>x.1) (fun _=>rfl) l hl
theorem Fb(l:ZC)(hl:l.length≤aG):∃M b,VR l.length M∧Av l=some (some M,b):=kE aO Qm (fun x=>x.1) (fun _=>rfl) l hl
theorem find_eq{n:Nat}(m:Za)(h:VR n (bE m))(k:Zj):ib m k=some (.inl ((),()))∨∃x,ib m k=some (.inr x)∧0≤x∧x<(n:Int):=by
 unfold ib
 cases hk:cC .str k (bE m) with
 |false=>exact Or.inl (aA (by decide))
 |true=>exact Or.inr ⟨_,aC (by decide),h.get hk⟩
abbrev OM:=Za
theorem VL(s:cM)(i u m:OM)(l:ZK)(hl:l.length*96≤aG)(hf:∀x∈l,x.2.2.2.2.1.length≤aG):∀(n c:Nat)(g:Bool)(f:List OM),l.length -c<n→c≤l.length→f.length=c→(∀j(hj:j<f.length)(hj':j<l.length),VR l[j].2.2.2.2.1.length (bE f[j]))→
 ∃g' f',j6 n (g,l,(l.length:Int),(c:Int),s,i,u,m,f)=some (.bA (g',s,i,u,m,f'))∧f'.length=l.length∧∀j(hj:j<f'.length)(hj':j<l.length),VR l[j].2.2.2.2.1.length (bE f'[j]):=by
 intro n
 have hB:=hB
 induction n with
 |zero=>intro c g f h;omega
 |
  succ n ih=>
  intro c g f hn hc hfl hv
  unfold j6 at ih ⊢
  rw[aN]
  generalize aK _ n=rec at ih ⊢
  dsimp only
  by_cases h:c<l.length
  ·obtain⟨M,b,hM,e⟩:=CW l[c].2.2.2.2.1 (hf _ (iQ h))
   rw[cU (by omega),eN c,aA (show(c:Int)<(l.length:Int) by omega),dg (t:=bR) h,e,aL]
   dsimp only
   rw[aA (show(f.length+List.length [_])*8≤aG by rw[db];omega),bG (by omega)]
   have key:∀v:Bool,∃g' f',rec (v,l,(l.length:Int),((c+1:Nat):Int),s,i,u,m,f++[some M])=some (.bA (g',s,i,u,m,f'))∧f'.length=l.length∧∀j(hj:j<f'.length)(hj':j<l.length),VR l[j].2.2.2.2.1.length (bE f'[j]):=fun v=>
    ih (
     c+1) v _ (by omega) (by omega) (by rw[ep,db,hfl]) fun j hj hj'=>by
     by_cases ej:j<f.length
     ·rw[List.getElem_append_left ej];exact hv j ej hj'
     ·have:j=c:=by rw[ep,db] at hj;omega
      subst this
      rw[List.getElem_append_right (by omega)]
      simp only[hfl,Nat.sub_self,List.getElem_singleton]
      exact hM
   split
   ·rw[aL];exact key true
   ·rw[aL];exact key b
  ·rw[gn (by omega)]
   exact⟨g,f,rfl,by omega,hv⟩
theorem VM(i u m:OM)(fs:List OM)(l:Zq)(hl:l.length≤aG)(hf:∀x∈l,x.2.2.1.length≤aG):∀(n c:Nat)(g:Bool),l.length -c<n→c≤l.length→
 ∃g',j7 n (g,l,(l.length:Int),(c:Int),i,u,m,fs)=some (.bA (g',i,u,m,fs)):=by
 intro n
 have hB:=hB
 induction n with
 |zero=>intro c g h;omega
 |
  succ n ih=>
  intro c g hn hc
  unfold j7 at ih ⊢
  rw[aN]
  generalize aK _ n=rec at ih ⊢
  dsimp only
  by_cases h:c<l.length
  ·obtain⟨M,b,_,e⟩:=Fb l[c].2.2.1 (hf _ (iQ h))
   rw[cU (by omega),eN c,aA (show(c:Int)<(l.length:Int) by omega),dg (t:=bZ) h,e,aL]
   dsimp only
   rw[bG (by omega)]
   split
   ·rw[aL];exact ih (c+1) true (by omega) (by omega)
   ·rw[aL];exact ih (c+1) b (by omega) (by omega)
  ·rw[gn (by omega)]
   exact⟨g,rfl⟩
theorem IK(s:cM)(hs:SS s)(h96:s.2.2.1.length*96≤aG):∃tw i u m fs,ud s=some (tw,i,u,m,fs)∧VR s.1.length (bE i)∧VR s.2.1.length (bE u)∧VR s.2.2.1.length (bE m)∧fs.length=s.2.2.1.length∧∀j(hj:j<fs.length)(hj':j<s.2.2.1.length),VR s.2.2.1[j].2.2.2.2.1.length (bE fs[j]):=by
 have hB:=hB
 obtain⟨M1,b1,v1,e1⟩:=IJ s.1 hs.nZ
 obtain⟨M2,b2,v2,e2⟩:=E9 s.2.1 hs.np
 obtain⟨M3,b3,v3,e3⟩:=A3 s.2.2.1 hs.dA
 obtain⟨M4,b4,_,e4⟩:=xo s.2.2.2.2.2.1 hs.fv
 unfold ud
 rw[e1,aL]
 dsimp only
 rw[e2,aL]
 dsimp only
 have orT:∀(a b:Bool)(K:Bool→Option (Bool×OM×OM×OM×List OM))(P:Option (Bool×OM×OM×OM×List OM)→Prop),(∀v,P (K v))→P (Option.bind (α:=Bool) (if a=true then(some true) else(some b)) K):=fun a b K P h=>by
  cases a with
  |true=>exact h true
  |false=>exact h b
 refine orT _ _ _ (fun y=>∃tw i u m fs,y=some (tw,i,u,m,fs)∧VR s.1.length (bE i)∧VR s.2.1.length (bE u)∧VR s.2.2.1.length (bE m)∧fs.length=s.2.2.1.length∧∀j(hj:j<fs.length)(hj':j<s.2.2.1.length),VR s.2.2.1[j].2.2.2.2.1.length (bE fs[j])) fun w1=>?_
 rw[e3,aL]
 dsimp only
 refine orT _ _ _ (fun y=>∃tw i u m fs,y=some (tw,i,u,m,fs)∧VR s.1.length (bE i)∧VR s.2.1.length (bE u)∧VR s.2.2.1.length (bE m)∧fs.length=s.2.2.1.length∧∀j(hj:j<fs.length)(hj':j<s.2.2.1.length),VR s.2.2.1[j].2.2.2.2.1.length (bE fs[j])) fun w2=>?_
 rw[e4,aL]
 dsimp only
 refine orT _ _ _ (fun y=>∃tw i u m fs,y=some (tw,i,u,m,fs)∧VR s.1.length (bE i)∧VR s.2.1.length (bE u)∧VR s.2.2.1.length (bE m)∧fs.length=s.2.2.1.length∧∀j(hj:j<fs.length)(hj':j<s.2.2.1.length),VR s.2.2.1[j].2.2.2.2.1.length (bE fs[j])) fun w3=>?_
 obtain⟨g',f',e11,hl,hv⟩:=VL s (some M1) (some M2) (some M3) s.2.2.1 h96 (fun x hx=>(hs.fields x hx).1) (Int.toNat (List.length s.2.2.1:Int)+1) 0 w3 [] (by omega) (by omega) rfl (fun j hj=>by simp at hj)
 have e11':j6 (Int.toNat (List.length s.2.2.1:Int)+1) (w3,s.2.2.1,(List.length s.2.2.1:Int),0,s,some M1,some M2,some M3,([]:List OM))=some (.bA (g',s,some M1,some M2,some M3,f')):=e11
 rw[e11',aI]
 dsimp only
 obtain⟨g2,e18⟩:=VM (some M1) (some M2) (some M3) f' s.2.2.2.1 hs.rules (fun x hx=>(hs.rl x hx).1) (Int.toNat (List.length s.2.2.2.1:Int)+1) 0 g' (by omega) (by omega)
 have e18':j7 (Int.toNat (List.length s.2.2.2.1:Int)+1) (g',s.2.2.2.1,(List.length s.2.2.2.1:Int),0,some M1,some M2,some M3,f')=some (.bA (g2,some M1,some M2,some M3,f')):=e18
 rw[e18',aI]
 exact⟨g2,some M1,some M2,some M3,f',rfl,v1,v2,v3,hl,hv⟩
theorem oH{n:Nat}{m:OM}(h:VR n (bE m)){k:Zj}{R:Type}{kp:Unit×Unit→Option R}{kn:Int→Option R}{P:R→Prop}(h1:W (kp ((),())) P)(h2:∀x,0≤x→x<(n:Int)→W (kn x) P):W (fj (ib m k) kp kn) P:=by
 rcases find_eq m h k with e|⟨x,e,h0,hx⟩
 ·rw[e];exact h1
 ·rw[e];exact h2 x h0 hx
theorem lZ(m:OM){k:Zj}{R:Type}{kp:Unit×Unit→Option R}{kn:Int→Option R}{P:R→Prop}(h1:W (kp ((),())) P)(h2:∀x,W (kn x) P):W (fj (ib m k) kp kn) P:=by
 unfold ib
 cases cC .str k (bE m) with
 |false=>exact h1
 |true=>exact h2 _
theorem IL(i u m:OM)(l:Zz)(fs:List OM)(hl:l.length≤aG)(hv:VR l.length (bE u)):W (ue i u m l fs) (ST (fun _=>True) fun r=>∃l',r=(i,u,m,l',fs)):=by
 have hB:=hB
 unfold ue
 refine bX.2 (W.ct (cP (L:=wE) rfl (CT (fun d=>∃l',d=(i,u,m,l',fs)) fun r=>r= .inl ((),())) l.length (fun c(s:Zz)=>((l.length:Int),(c:Int),i,u,m,s,fs)) (fun _ s=>s.length=l.length) ?step ?stop _ 0 l (by omega) (by omega) rfl) (fun d ⟨l',h⟩=>?_) fun r h=>?_)
 case step=>
  intro rec c s hc hI k
  dsimp only
  rw[cU (by omega),eN c,aA (show(c:Int)<(s.length:Int) by omega),bG (by omega)]
  split
  ·exact k _ (by rw[cj,cj];exact hI)
  ·refine oH hv ⟨_,rfl,rfl⟩ fun x h0 h1=>?_
   by_cases h:(c:Int)≤x
   ·rw[cU h];exact⟨_,rfl,rfl⟩
   ·rw[aC (show¬decide ((c:Int)≤x)=true by simpa using h),aI]
    dsimp only
    rw[aA h0,aA (show x<(s.length:Int) by omega)]
    generalize hL:List.set _ _ _=L
    have hL':L.length=l.length:=by rw[←hL,cj,cj];exact hI
    clear hL
    rw[aI]
    dsimp only
    have hx:x<(L.length:Int):=by omega
    rw[aA h0,aA hx]
    refine W.bt ?_ fun v=>?_
    ·repeat' (first|exact⟨_,rfl⟩|split)
    ·split
     ·rw[bG (by omega)]
      exact k _ (by rw[cj];exact hL')
     ·rw[bG (by omega)]
      exact k _ hL'
 case stop=>
  intro rec s hI
  dsimp only
  rw[gn (by omega)]
  exact⟨_,rfl,s,rfl⟩
 ·subst h;exact⟨_,rfl,l',rfl⟩
 ·subst h;exact trivial
def VN(x:lJ):Prop:=x.2.2.2.2.1.length*120≤aG∧x.2.2.2.2.2.1.length*72≤aG∧∀d∈x.2.2.2.2.2.1,d.1.length*16≤aG
theorem Fe(t i u m:OM)(l:ZK)(k:Nat)(a:lJ)(fs:List OM)(hb:VN a):W (uf t i u m l k a fs) (ST (fun _=>True) fun r=>∃x1 x2 x3 x4 x5 x6 x7,r=(i,u,m,l,k,x1,x2,x3,x4,x5,fs,x6,x7)):=by
 have hB:=hB
 unfold uf
 refine lZ i ⟨_,rfl,trivial⟩ fun y1=>?_
 have e1:AF a.2.2.2.2.1=some a.2.2.2.2.1:=iB _ _ hb.1
 rw[e1,aL]
 have l1:a.2.2.2.2.1.length≤aG:=by have:=hb.1;omega
 refine bX.2 (W.ct (cP (L:=wG) rfl (CT (fun d=>∃s',d=(t,i,u,m,l,k,a.1,a.2.1,y1,a.2.2.2.1,a.2.2.2.2.2,fs,s')) fun r=>r= .inl ((),())) a.2.2.2.2.1.length (fun c(s:ZL)=>(t,(a.2.2.2.2.1.length:Int),(c:Int),i,u,m,l,k,a.1,a.2.1,y1,a.2.2.2.1,a.2.2.2.2.2,fs,s)) (fun _ s=>s.length=a.2.2.2.2.1.length) ?step ?stop _ 0 a.2.2.2.2.1 (by omega) (by omega) rfl) (fun d ⟨s',h⟩=>?_) fun r h=>?_)
 case step=>
  intro rec c s hc hI kk
  dsimp only
  have hw:=ld c (by omega)
  rw[cU (by omega),eN c,aA (show(c:Int)<(s.length:Int) by omega)]
  generalize hL:List.set _ _ _=L
  have hL':L.length=a.2.2.2.2.1.length:=by rw[←hL,cj];exact hI
  clear hL
  rw[aI]
  dsimp only
  refine W.bt ?_ fun v=>?_
  ·split<;>exact⟨_,rfl⟩
  ·split
   ·exact lZ u ⟨_,rfl,rfl⟩ fun x=>(by rw[hw];exact kk _ (by rw[cj];exact hL'))
   ·rw[hw];exact kk _ hL'
 case stop=>
  intro rec s hI
  dsimp only
  rw[gn (by omega)]
  exact⟨_,rfl,s,rfl⟩
 ·subst h
  dsimp only
  have e2:AG a.2.2.2.2.2.1=some a.2.2.2.2.2.1:=iB _ _ hb.2.1
  rw[e2,aL]
  have l2:a.2.2.2.2.2.1.length≤aG:=by have:=hb.2.1;omega
  refine bX.2 (W.ct (cP (L:=sT) rfl (CT (fun d=>∃z,d=(i,u,m,l,k,a.1,a.2.1,y1,a.2.2.2.1,a.2.2.2.2.2.2,fs,s',z)) fun r=>r= .inl ((),())) a.2.2.2.2.2.1.length (fun c(s:EG)=>(t,(a.2.2.2.2.2.1.length:Int),(c:Int),i,u,m,l,k,a.1,a.2.1,y1,a.2.2.2.1,a.2.2.2.2.2.2,fs,s',s)) (fun _ s=>s.length=a.2.2.2.2.2.1.length∧∀d∈s,d.1.length*16≤aG) ?step ?stop _ 0 a.2.2.2.2.2.1 (by omega) (by omega) ⟨rfl,hb.2.2⟩) (fun d ⟨z,h⟩=>?_) fun r h=>?_)
  case step=>
   intro rec c s hc hI kk
   dsimp only
   have hcs:(c:Int)<(s.length:Int):=by have:=hI.1;omega
   have hn:(nth fH s (c:Int)).1.length*16≤aG:=hI.2 _ (dO (t:=fH) (dx c) hcs)
   have hw:=ld c (by omega)
   rw[cU (by omega),eN c,aA hcs]
   generalize nth fH s (c:Int)=w at hn ⊢
   refine bX.2 (bX.2 (W.ct (cP (L:=sS) rfl (CT (fun d=>∃e,d=(t,(a.2.2.2.2.2.1.length:Int),(c:Int),i,u,m,l,k,a.1,a.2.1,y1,a.2.2.2.1,a.2.2.2.2.2.2,fs,s',s,Int.toNat (c:Int),w.1,w.2.1,w.2.2.2,e)) fun r=>r= .ret (.ret (.inl ((),())))) w.1.length (fun j(e:Zg)=>(t,(a.2.2.2.2.2.1.length:Int),(c:Int),w.1,(w.1.length:Int),(j:Int),i,u,m,l,k,a.1,a.2.1,y1,a.2.2.2.1,a.2.2.2.2.2.2,fs,s',s,Int.toNat (c:Int),w.1,w.2.1,w.2.2.2,e)) (fun j e=>e.length=j) ?step2 ?stop2 _ 0 [] (by omega) (by omega) rfl) (fun d ⟨e,h⟩=>?_) fun r h=>?_))
   case step2=>
    intro rec2 j e hj hI2 kk2
    dsimp only
    have hw2:=ld j (by omega)
    rw[cU (by omega),eN j,aA (show(j:Int)<(w.1.length:Int) by omega)]
    refine lZ t ⟨_,rfl,rfl⟩ fun x=>?_
    rw[aA (show(e.length+List.length [_])*8≤aG by rw[db];omega)]
    rw[hw2]
    exact kk2 _ (by rw[ep,db,hI2])
   case stop2=>
    intro rec2 e hI2
    dsimp only
    rw[gn (by omega)]
    exact⟨_,rfl,e,rfl⟩
   ·subst h
    dsimp only
    refine lZ t ⟨_,rfl,rfl⟩ fun x=>⟨_,rfl,?_⟩
    rw[i4]
    dsimp only
    rw[hw]
    refine kk _ ⟨by rw[cj];exact hI.1,fun d hd=>?_⟩
    rcases List.mem_or_eq_of_mem_set hd with h|rfl
    ·exact hI.2 d h
    ·exact hn
   ·subst h;exact rfl
  case stop=>
   intro rec s hI
   dsimp only
   rw[gn (by omega)]
   exact⟨_,rfl,s,rfl⟩
  ·subst h
   exact⟨_,rfl,_,_,_,_,_,_,_,rfl⟩
  ·subst h;exact trivial
 ·subst h;exact trivial
def Sc(l:ZC):Zg:=l.map fun x=>x.2.2.1
theorem wT(l:ZC):(Sc l).length=l.length:=im ..
theorem A4(l:ZC)(i:Nat)(v:AJ)(h:v.2.2.1=(l.getD i (Ty.aD aO)).2.2.1):Sc (l.set i v)=Sc l:=by
 unfold Sc
 rw[List.map_set]
 refine List.ext_getElem (by rw[cj]) fun j h1 h2=>?_
 rw[List.getElem_set]
 split
 ·rename_i e
  subst e
  rw[im] at h2
  rw[h,List.getElem_map,pF,mq h2,Option.getD_some]
 ·rfl
def VS(n K:Nat)(s:Zg):Prop:=n≤s.length∧∀j(h:j<s.length),j<n→0≤s[j]∧s[j]<(K:Int)
theorem VS.at'{n K:Nat}{l:ZC}(h:VS n K (Sc l)){x:Int}(h0:0≤x)(h1:x<(n:Int)):x<(l.length:Int)∧0≤(nth aO l x).2.2.1∧(nth aO l x).2.2.1<(K:Int):=by
 have hn:=h.1
 rw[wT] at hn
 have e:x=(x.toNat:Int):=by omega
 have hx:x.toNat<l.length:=by omega
 have hs:=h.2 x.toNat (by rw[wT];exact hx) (by omega)
 rw[e,dg (t:=aO) hx]
 unfold Sc at hs
 rw[List.getElem_map] at hs
 exact⟨by omega,hs⟩
theorem gD{α:Type}{l:List α}{i:Nat}{v d:α}(h:i<l.length):(l.set i v).getD i d=v:=by
 rw[pF,mq (by rw[cj];exact h),Option.getD_some,List.getElem_set_self]
theorem VO(a0:Nat)(a1:ZC)(a2:Zs)(i u m:OM)(a6:Zq)(a7:Nat)(a8:Zj)(a9:Int)(a10:ZE×ZG×Unit)(fs:List OM)(n:Nat)(h0:a0<a1.length)(hv:VR n a2)(hs:VS n fs.length (Sc a1)):
 W (ug a0 a1 a2 i u m a6 a7 a8 a9 a10 fs) (ST (fun _=>True) fun r=>∃a1',r=(a1',a2,i,u,m,a6,a7,a8,a9,a10,fs)∧Sc a1'=Sc a1):=by
 unfold ug
 generalize hL:List.set (List.set a1 _ _) _ _=L
 have hL':Sc L=Sc a1:=by
  rw[←hL,A4 _ _ _ (by rfl),A4 _ _ _ (by rfl)]
 have hLl:a0<L.length:=by rw[←hL,cj,cj];exact h0
 clear hL
 rw[aI]
 dsimp only
 split
 ·refine bX.2 (oH (m:=some a2) hv ⟨_,rfl,trivial⟩ fun x hx0 hx1=>⟨_,rfl,?_⟩)
  rw[i4]
  generalize hM:List.set _ _ _=M
  have hg:(List.getD M a0 (Ty.aD aO)).2.2.2.1.2.2.1=x:=by rw[←hM,gD hLl]
  have hM':Sc M=Sc a1:=by rw[←hM,A4 _ _ _ (by rfl)];exact hL'
  clear hM
  dsimp only
  rw[←hM'] at hs
  obtain⟨q1,q2,q3⟩:=hs.at' hx0 hx1
  rw[hg,aA hx0,aA q1,aA q2,aA q3]
  refine lZ _ ⟨_,rfl,trivial⟩ fun y=>⟨_,rfl,_,rfl,?_⟩
  rw[A4 _ _ _ (by rfl)];exact hM'
 ·exact⟨_,rfl,_,rfl,hL'⟩
theorem VP(a0:Nat)(a1:ZE)(a2:Zs)(i u m:OM)(a6:Zq)(a7:Nat)(a8:Zj)(a9:Int)(a10:ZG×Unit)(fs:List OM)(a12:ZC)(n:Nat)(h0:a0<a1.length)(hv:VR n a2)(hs:VS n fs.length (Sc a12)):
 W (uh a0 a1 a2 i u m a6 a7 a8 a9 a10 fs a12) (ST (fun _=>True) fun r=>∃a1',r=(a1',a2,i,u,m,a6,a7,a8,a9,a10,fs,a12)∧a1'.length=a1.length):=by
 unfold uh
 generalize hL:List.set (List.set a1 _ _) _ _=L
 have hL':L.length=a1.length:=by rw[←hL,cj,cj]
 clear hL
 rw[aI]
 dsimp only
 split
 ·refine bX.2 (oH (m:=some a2) hv ⟨_,rfl,trivial⟩ fun x hx0 hx1=>⟨_,rfl,?_⟩)
  rw[i4]
  generalize hM:List.set _ _ _=M
  have hg:(List.getD M a0 (Ty.aD aU)).2.1.2.2.1=x:=by rw[←hM,gD (by omega)]
  have hM':M.length=a1.length:=by rw[←hM,cj];exact hL'
  clear hM
  dsimp only
  obtain⟨q1,q2,q3⟩:=hs.at' hx0 hx1
  rw[hg,aA hx0,aA q1,aA q2,aA q3]
  refine lZ _ ⟨_,rfl,trivial⟩ fun y=>⟨_,rfl,_,rfl,?_⟩
  rw[cj];exact hM'
 ·exact⟨_,rfl,_,rfl,hL'⟩
theorem VQ(a0:Nat)(a1:ZE)(a2:Zs)(i u m:OM)(a6:Zq)(a7:Nat)(a8:Zj)(a9:Int)(a10:ZG×Unit)(fs:List OM)(a12:ZC)(n:Nat)(h0:a0<a1.length)(hv:VR n a2)(hs:VS n fs.length (Sc a12)):
 W (tD a0 a1 a2 i u m a6 a7 a8 a9 a10 fs a12) (ST (fun _=>True) fun r=>∃a1',r=(a1',a2,i,u,m,a6,a7,a8,a9,a10,fs,a12)∧a1'.length=a1.length):=by
 unfold tD
 generalize hL:List.set (List.set a1 _ _) _ _=L
 have hL':L.length=a1.length:=by rw[←hL,cj,cj]
 clear hL
 rw[aI]
 dsimp only
 split
 ·refine bX.2 (oH (m:=some a2) hv ⟨_,rfl,trivial⟩ fun x hx0 hx1=>⟨_,rfl,?_⟩)
  rw[i4]
  generalize hM:List.set _ _ _=M
  have hg:(List.getD M a0 (Ty.aD aU)).2.2.1.2.2.1=x:=by rw[←hM,gD (by omega)]
  have hM':M.length=a1.length:=by rw[←hM,cj];exact hL'
  clear hM
  dsimp only
  obtain⟨q1,q2,q3⟩:=hs.at' hx0 hx1
  rw[hg,aA hx0,aA q1,aA q2,aA q3]
  refine lZ _ ⟨_,rfl,trivial⟩ fun y=>⟨_,rfl,_,rfl,?_⟩
  rw[cj];exact hM'
 ·exact⟨_,rfl,_,rfl,hL'⟩
theorem VT(a0:Nat)(a1:ZG)(a2:Zs)(i u m:OM)(a6:Zq)(a7:Nat)(a8:Zj)(a9:Int)(a10:Unit)(fs:List OM)(a12:ZC)(a13:ZE)(n:Nat)(h0:a0<a1.length)(hv:VR n a2)(hs:VS n fs.length (Sc a12)):
 W (tE a0 a1 a2 i u m a6 a7 a8 a9 a10 fs a12 a13) (ST (fun _=>True) fun r=>∃a1',r=(a1',a2,i,u,m,a6,a7,a8,a9,a10,fs,a12,a13)∧a1'.length=a1.length):=by
 unfold tE
 generalize hL:List.set (List.set a1 _ _) _ _=L
 have hL':L.length=a1.length:=by rw[←hL,cj,cj]
 clear hL
 rw[aI]
 dsimp only
 split
 ·refine bX.2 (oH (m:=some a2) hv ⟨_,rfl,trivial⟩ fun x hx0 hx1=>⟨_,rfl,?_⟩)
  rw[i4]
  generalize hM:List.set _ _ _=M
  have hg:(List.getD M a0 (Ty.aD bJ)).2.2.1.2.2.1=x:=by rw[←hM,gD (by omega)]
  have hM':M.length=a1.length:=by rw[←hM,cj];exact hL'
  clear hM
  dsimp only
  obtain⟨q1,q2,q3⟩:=hs.at' hx0 hx1
  rw[hg,aA hx0,aA q1,aA q2,aA q3]
  refine lZ _ ⟨_,rfl,trivial⟩ fun y=>⟨_,rfl,_,rfl,?_⟩
  rw[cj];exact hM'
 ·exact⟨_,rfl,_,rfl,hL'⟩
def My(x:dD):Prop:=x.2.2.1.length*96≤aG∧x.2.2.2.1.length*120≤aG∧x.2.2.2.2.1.length*80≤aG
theorem VS.ajo{n K:Nat}{s:Zg}(h:VS n K s)(y:Int):VS n K (s.set n y):=by
 refine⟨by rw[cj];exact h.1,fun j hj hn=>?_⟩
 rw[cj] at hj
 rw[List.getElem_set_ne (by omega)]
 exact h.2 j hj hn
theorem VS.push{n K:Nat}{s:Zg}(h:VS n K s)(hn:n<s.length){y:Int}(h0:0≤y)(h1:y<(K:Int)):VS (n+1) K (s.set n y):=by
 refine⟨by rw[cj];exact hn,fun j hj hjn=>?_⟩
 rw[cj] at hj
 by_cases e:j=n
 ·subst e
  rw[List.getElem_set_self]
  exact⟨h0,h1⟩
 ·rw[List.getElem_set_ne (by omega)]
  exact h.2 j hj (by omega)
theorem VR.push{n:Nat}{M:Zs}(h:VR n M)(k:Zj):VR (n+1) (bC .str k (n:Int) M):=fun p hp=>by
 rcases fw (kt:=.str) hp with rfl|hp
 ·exact⟨dx n,by show(n:Int)<_;omega⟩
 ·have:=h p hp
  exact⟨this.1,by omega⟩
theorem RQ(l:ZC)(i:Nat)(v:AJ):Sc (l.set i v)=(Sc l).set i v.2.2.1:=List.map_set ..
theorem Mz(i u m:OM)(l:Zq)(k:Nat)(a:dD)(fs:List OM)(hb:My a)(hm:VR fs.length (bE m)):W (tF i u m l k a fs) (ST (fun _=>True) fun r=>∃x1 x2 x3 x4 x5 x6,r=(i,u,m,l,k,x1,x2,x3,fs,x4,x5,x6)):=by
 have hB:=hB
 unfold tF
 refine oH hm ⟨_,rfl,trivial⟩ fun y1 y0 yK=>?_
 have e1:AH a.2.2.1=some a.2.2.1:=iB _ _ hb.1
 rw[e1,aL]
 have l1:a.2.2.1.length≤aG:=by have:=hb.1;omega
 have l2:a.2.2.2.1.length≤aG:=by have:=hb.2.1;omega
 have l3:a.2.2.2.2.1.length≤aG:=by have:=hb.2.2;omega
 refine bX.2 (W.ct (cP (L:=uA) rfl (CT (fun d=>∃s V,d=(i,u,m,l,k,a.1,y1,a.2.2.2,fs,s,V)∧s.length=a.2.2.1.length∧VR s.length V∧VS s.length fs.length (Sc s)) fun r=>r= .inl ((),())) a.2.2.1.length (fun c(s:ZC×Zs)=>((a.2.2.1.length:Int),(c:Int),i,u,m,l,k,a.1,y1,a.2.2.2,fs,s.1,s.2)) (fun c s=>s.1.length=a.2.2.1.length∧s.2.length≤c∧VR c s.2∧VS c fs.length (Sc s.1)) ?step ?stop _ 0 (a.2.2.1,[]) (by omega) (by omega) ⟨rfl,dc _,fun p hp=>(by cases hp),gL _,fun j hj hj0=>absurd hj0 (Nat.not_lt_zero _)⟩) (fun d ⟨s,V,h,hsl,hVR,hVS⟩=>?_) fun r h=>?_)
 case step=>
  rintro rec c ⟨s,V⟩ hc ⟨hsl,hVl,hVR,hVS⟩ kk
  dsimp only at hsl hVl hVR hVS ⊢
  have hw:=ld c (by omega)
  rw[cU (by omega),eN c,aA (show(c:Int)<(s.length:Int) by omega)]
  refine bX.2 (oH hm ⟨_,rfl,rfl⟩ fun x x0 xK=>⟨_,rfl,?_⟩)
  rw[i4]
  generalize hL:List.set _ _ _=L
  have hS:Sc L=(Sc s).set c x:=by rw[←hL,RQ,ew]
  have hLl:L.length=a.2.2.1.length:=by rw[←hL,cj];exact hsl
  clear hL
  dsimp only
  refine lb.2 ((VO (Int.toNat (c:Int)) L V i u m l k a.1 y1 a.2.2.2 fs c (by rw[ew];omega) hVR (by rw[hS];exact hVS.ajo x)).st (fun _ _=>⟨_,rfl,rfl⟩) fun r ⟨L',hr,hL'⟩=>?_)
  subst hr
  dsimp only
  rw[aA (show V.length+1≤aG by omega)]
  rw[hw]
  refine kk (L',bC .str (List.getD L' (Int.toNat (c:Int)) (Ty.aD aO)).1 (c:Int) V) ⟨?_,cI (dt (kt:=.str)) (by omega),VR.push (n:=c) hVR _,?_⟩
  ·have:=congrArg List.length hL'
   rw[wT,wT] at this
   exact this.trans hLl
  ·show VS (c+1) fs.length (Sc L')
   rw[hL',hS]
   exact hVS.push (by rw[wT];omega) x0 xK
 case stop=>
  rintro rec ⟨s,V⟩ ⟨hsl,hVl,hVR,hVS⟩
  dsimp only at hsl hVl hVR hVS ⊢
  rw[gn (by omega)]
  exact⟨_,rfl,s,V,rfl,hsl,hsl▸hVR,hsl▸hVS⟩
 ·subst h
  dsimp only
  have e2:AI a.2.2.2.1=some a.2.2.2.1:=iB _ _ hb.2.1
  rw[e2,aL]
  refine bX.2 (W.ct (cP (L:=sj) rfl (CT (fun d=>∃w,d=(i,u,m,l,k,a.1,y1,a.2.2.2.2,fs,s,V,w)) fun r=>r= .inl ((),())) a.2.2.2.1.length (fun c(w:ZE)=>((a.2.2.2.1.length:Int),(c:Int),i,u,m,l,k,a.1,y1,a.2.2.2.2,fs,s,V,w)) (fun _ w=>w.length=a.2.2.2.1.length) ?step ?stop _ 0 a.2.2.2.1 (by omega) (by omega) rfl) (fun d ⟨w,h⟩=>?_) fun r h=>?_)
  case step=>
   intro rec c w hc hI kk
   dsimp only
   have hw:=ld c (by omega)
   rw[cU (by omega),eN c,aA (show(c:Int)<(w.length:Int) by omega)]
   refine lb.2 ((VP (Int.toNat (c:Int)) w V i u m l k a.1 y1 a.2.2.2.2 fs s s.length (by rw[ew];omega) hVR hVS).st (fun _ _=>⟨_,rfl,rfl⟩) fun r ⟨w',hr,hw'⟩=>?_)
   subst hr
   dsimp only
   rw[eN c,aA (show(c:Int)<(w'.length:Int) by omega)]
   refine lb.2 ((VQ (Int.toNat (c:Int)) w' V i u m l k a.1 y1 a.2.2.2.2 fs s s.length (by rw[ew];omega) hVR hVS).st (fun _ _=>⟨_,rfl,rfl⟩) fun r ⟨w2,hr,hw2⟩=>?_)
   subst hr
   rw[hw]
   exact kk w2 (hw2.trans (hw'.trans hI))
  case stop=>
   intro rec w hI
   dsimp only
   rw[gn (by omega)]
   exact⟨_,rfl,w,rfl⟩
  ·subst h
   dsimp only
   have e3:yM a.2.2.2.2.1=some a.2.2.2.2.1:=iB _ _ hb.2.2
   rw[e3,aL]
   refine bX.2 (W.ct (cP (L:=sk) rfl (CT (fun d=>∃z,d=(i,u,m,l,k,a.1,y1,(),fs,s,w,z)) fun r=>r= .inl ((),())) a.2.2.2.2.1.length (fun c(z:ZG)=>((a.2.2.2.2.1.length:Int),(c:Int),i,u,m,l,k,a.1,y1,a.2.2.2.2.2,fs,s,V,w,z)) (fun _ z=>z.length=a.2.2.2.2.1.length) ?step ?stop _ 0 a.2.2.2.2.1 (by omega) (by omega) rfl) (fun d ⟨z,h⟩=>?_) fun r h=>?_)
   case step=>
    intro rec c z hc hI kk
    dsimp only
    have hz:(c:Int)<(z.length:Int):=by omega
    have hw:=ld c (by omega)
    rw[cU (by omega),aA y0,aA yK,eN c,aA hz]
    refine lZ _ ⟨_,rfl,rfl⟩ fun x=>?_
    rw[eN c,aA hz]
    generalize hZ:List.set z _ _=Z
    have hZl:Z.length=a.2.2.2.2.1.length:=by rw[←hZ,cj];exact hI
    clear hZ
    rw[eN c,aA (show(c:Int)<(Z.length:Int) by omega)]
    refine lb.2 ((VT (Int.toNat (c:Int)) Z V i u m l k a.1 y1 a.2.2.2.2.2 fs s w s.length (by rw[ew];omega) hVR hVS).st (fun _ _=>⟨_,rfl,rfl⟩) fun r ⟨w2,hr,hw2⟩=>?_)
    subst hr
    rw[hw]
    exact kk w2 (hw2.trans hZl)
   case stop=>
    intro rec z hI
    dsimp only
    rw[gn (by omega)]
    exact⟨_,rfl,z,rfl⟩
   ·subst h
    exact⟨_,rfl,_,_,_,_,_,_,rfl⟩
   ·subst h;exact trivial
  ·subst h;exact trivial
 ·subst h;exact trivial
theorem CX(i u m:OM)(l:ZN)(k:Nat)(a:rW)(fs:List OM)(hb:a.2.2.2.2.1.length*56≤aG)(hm:VR fs.length (bE m)):W (tG i u m l k a fs) (ST (fun _=>True) fun r=>∃x1 x2 x3 x4 x5 x6,r=(i,u,m,l,k,x1,x2,x3,x4,x5,fs,x6)):=by
 have hB:=hB
 unfold tG
 refine oH hm ⟨_,rfl,trivial⟩ fun y1 y0 yK=>oH hm ⟨_,rfl,trivial⟩ fun y2 z0 zK=>?_
 have e1:yN a.2.2.2.2.1=some a.2.2.2.2.1:=iB _ _ hb
 rw[e1,aL]
 refine bX.2 (W.ct (cP (L:=uB) rfl (CT (fun d=>∃s,d=(i,u,m,l,k,a.1,a.2.1,y1,y2,a.2.2.2.2.2,fs,s)) fun r=>r= .inl ((),())) a.2.2.2.2.1.length (fun c(s:Zz)=>((a.2.2.2.2.1.length:Int),(c:Int),i,u,m,l,k,a.1,a.2.1,y1,y2,a.2.2.2.2.2,fs,s)) (fun _ s=>s.length=a.2.2.2.2.1.length) ?step ?stop _ 0 a.2.2.2.2.1 (by omega) (by omega) rfl) (fun d ⟨w,h⟩=>?_) fun r h=>?_)
 case step=>
  intro rec c s hc hI kk
  dsimp only
  have hw:=ld c (by omega)
  rw[cU (by omega),eN c,aA (show(c:Int)<(s.length:Int) by omega),aA y0,aA yK]
  refine lZ _ ?_ fun x=>?_
  ·rw[aA z0,aA zK];exact⟨_,rfl,rfl⟩
  ·rw[aA z0,aA zK]
   refine lZ _ ⟨_,rfl,rfl⟩ fun y=>?_
   rw[hw]
   exact kk _ (by rw[cj,cj];exact hI)
 case stop=>
  intro rec s hI
  dsimp only
  rw[gn (by omega)]
  exact⟨_,rfl,s,rfl⟩
 ·subst h
  exact⟨_,rfl,_,_,_,_,_,_,rfl⟩
 ·subst h;exact trivial
theorem CY(i u m:OM)(l:ZI)(k:Nat)(a:oi)(fs:List OM)(hb:a.2.1.length*48≤aG)(hm:VR fs.length (bE m)):W (tH i u m l k a fs) (ST (fun _=>True) fun r=>∃x1 x2 x3,r=(i,u,m,l,k,x1,x2,fs,x3)):=by
 have hB:=hB
 unfold tH
 have e1:yO a.2.1=some a.2.1:=iB _ _ hb
 rw[e1,aL]
 refine bX.2 (W.ct (cP (L:=uC) rfl (CT (fun d=>∃s,d=(i,u,m,l,k,a.1,a.2.2,fs,s)) fun r=>r= .inl ((),())) a.2.1.length (fun c(s:List pj)=>((a.2.1.length:Int),(c:Int),i,u,m,l,k,a.1,a.2.2,fs,s)) (fun _ s=>s.length=a.2.1.length) ?step ?stop _ 0 a.2.1 (by omega) (by omega) rfl) (fun d ⟨w,h⟩=>?_) fun r h=>?_)
 case step=>
  intro rec c s hc hI kk
  dsimp only
  have hw:=ld c (by omega)
  rw[cU (by omega),eN c,aA (show(c:Int)<(s.length:Int) by omega)]
  refine bX.2 (oH hm ⟨_,rfl,rfl⟩ fun x x0 xK=>⟨_,rfl,?_⟩)
  rw[i4]
  generalize hM:List.set _ _ _=M
  have hg:(List.getD M (Int.toNat (c:Int)) (Ty.aD fg)).2.2.1=x:=by rw[←hM,gD (by rw[ew];omega)]
  have hM':M.length=a.2.1.length:=by rw[←hM,cj];exact hI
  clear hM
  dsimp only
  rw[hg,aA x0,aA xK]
  refine lZ _ ⟨_,rfl,rfl⟩ fun y=>?_
  rw[hw]
  exact kk _ (by rw[cj];exact hM')
 case stop=>
  intro rec s hI
  dsimp only
  rw[gn (by omega)]
  exact⟨_,rfl,s,rfl⟩
 ·subst h
  exact⟨_,rfl,_,_,_,rfl⟩
 ·subst h;exact trivial
structure BS(s:cM):Prop where
 nZ:s.1.length*16≤aG
 np:s.2.1.length*56≤aG
 dA:s.2.2.1.length*96≤aG
 rules:s.2.2.2.1.length*96≤aG
 iX:s.2.2.2.2.1.length*72≤aG
 fv:s.2.2.2.2.2.1.length*48≤aG
 sch:∀x∈s.2.2.1,VN x
 rl:∀x∈s.2.2.2.1,My x
 cv:∀x∈s.2.2.2.2.1,x.2.2.2.2.1.length*56≤aG
 pu:∀x∈s.2.2.2.2.2.1,x.2.1.length*48≤aG
def jQ{α:Type}(P:α→Prop)(c:Nat)(l:List α):Prop:=∀j(h:j<l.length),c≤j→P l[j]
theorem jQ.of{α:Type}{P:α→Prop}{l:List α}(h:∀x∈l,P x):jQ P 0 l:=fun _ hj _=>h _ (iQ hj)
theorem jQ.next{α:Type}{P:α→Prop}{c:Nat}{l:List α}(h:jQ P c l)(v:α):jQ P (c+1) (l.set (Int.toNat (c:Int)) v):=fun j hj hc=>by
 have hj':j<l.length:=by rw[cj] at hj;exact hj
 rw[List.getElem_set_ne (by rw[ew];omega)]
 exact h j hj' (by omega)
theorem jQ.here{t:Ty}{P:t.den→Prop}{c:Nat}{l:List t.den}(h:jQ P c l)(hc:c<l.length):P (nth t l (c:Int)):=by
 rw[dg (t:=t) hc]
 exact h c hc (dc _)
theorem CZ(s:cM)(hs:SS s)(hb:BS s):W (Nx s) fun _=>True:=by
 have hB:=hB
 obtain⟨tw,i,u,m,fs,e,hi,hu,hm,hl,hf⟩:=IK s hs hb.dA
 unfold Nx
 rw[e,aL]
 dsimp only
 split
 ·exact⟨_,rfl,trivial⟩
 ·have e1:Aw s.1=some s.1:=iB _ _ hb.nZ
  have e2:Ay s.2.1=some s.2.1:=iB _ _ hb.np
  have e3:Az s.2.2.1=some s.2.2.1:=iB _ _ hb.dA
  have e4:AA s.2.2.2.1=some s.2.2.2.1:=iB _ _ hb.rules
  have e5:AB s.2.2.2.2.1=some s.2.2.2.2.1:=iB _ _ hb.iX
  have e6:AD s.2.2.2.2.2.1=some s.2.2.2.2.2.1:=iB _ _ hb.fv
  rw[e1,aL,e2,aL,e3,aL,e4,aL,e5,aL,e6,aL]
  have k3:=hs.dA
  have k4:=hs.rules
  have k5:=hs.iX
  have k6:=hs.fv
  have p3:=jQ.of hb.sch
  have p4:=jQ.of hb.rl
  have p5:=jQ.of hb.cv
  have p6:=jQ.of hb.pu
  have qu:=IL i u m s.2.1 fs hs.np hu
  rw[←hl] at hm
  generalize s.1=v1 at*
  generalize s.2.1=v2 at*
  generalize s.2.2.1=v3 at*
  generalize s.2.2.2.1=v4 at*
  generalize s.2.2.2.2.1=v5 at*
  generalize s.2.2.2.2.2.1=v6 at*
  refine lb.2 (qu.st (fun _ _=>⟨_,rfl,trivial⟩) fun r ⟨us,hr⟩=>?_)
  subst hr
  dsimp only
  refine bX.2 (W.ct (cP (L:=FH) rfl (CT (fun d=>∃p,d=((0:Int),i,u,m,v1,us,p,v4,v5,v6,fs)) fun _=>True) v3.length (fun c(p:ZK)=>((v3.length:Int),(c:Int),0,i,u,m,v1,us,p,v4,v5,v6,fs)) (fun c p=>p.length=v3.length∧jQ VN c p) ?step ?stop _ 0 v3 (by omega) (by omega) ⟨rfl,p3⟩) (fun d ⟨w3,h⟩=>?_) fun _ _=>trivial)
  case step=>
   rintro rec c p hc ⟨hp,hT⟩ kk
   dsimp only
   have hcp:c<p.length:=by omega
   have hw:=ld c (by omega)
   rw[cU (by omega),eN c,aA (show(c:Int)<(p.length:Int) by omega),eN c,aA rfl,eN c,aA (show(c:Int)<(fs.length:Int) by omega)]
   refine lb.2 ((Fe _ i u m p _ _ fs (hT.here (t:=bR) hcp)).st (fun _ _=>⟨_,rfl,trivial⟩) fun r ⟨x1,x2,x3,x4,x5,x6,x7,hr⟩=>?_)
   subst hr
   rw[hw]
   exact kk _ ⟨by rw[cj];exact hp,hT.next _⟩
  case stop=>
   rintro rec p ⟨hp,hT⟩
   dsimp only
   rw[gn (by omega)]
   exact⟨_,rfl,p,rfl⟩
  subst h
  dsimp only
  refine bX.2 (W.ct (cP (L:=Bz) rfl (CT (fun d=>∃p,d=((0:Int),i,u,m,v1,us,w3,p,v5,v6,fs)) fun _=>True) v4.length (fun c(p:Zq)=>((v4.length:Int),(c:Int),0,i,u,m,v1,us,w3,p,v5,v6,fs)) (fun c p=>p.length=v4.length∧jQ My c p) ?step ?stop _ 0 v4 (by omega) (by omega) ⟨rfl,p4⟩) (fun d ⟨w4,h⟩=>?_) fun _ _=>trivial)
  case step=>
   rintro rec c p hc ⟨hp,hT⟩ kk
   dsimp only
   have hcp:c<p.length:=by omega
   have hw:=ld c (by omega)
   rw[cU (by omega),eN c,aA (show(c:Int)<(p.length:Int) by omega),eN c,aA rfl]
   refine lb.2 ((Mz i u m p _ _ fs (hT.here (t:=bZ) hcp) hm).st (fun _ _=>⟨_,rfl,trivial⟩) fun r ⟨x1,x2,x3,x4,x5,x6,hr⟩=>?_)
   subst hr
   rw[hw]
   exact kk _ ⟨by rw[cj];exact hp,hT.next _⟩
  case stop=>
   rintro rec p ⟨hp,hT⟩
   dsimp only
   rw[gn (by omega)]
   exact⟨_,rfl,p,rfl⟩
  subst h
  dsimp only
  refine bX.2 (W.ct (cP (L:=BA) rfl (CT (fun d=>∃p,d=((0:Int),i,u,m,v1,us,w3,w4,p,v6,fs)) fun _=>True) v5.length (fun c(p:ZN)=>((v5.length:Int),(c:Int),0,i,u,m,v1,us,w3,w4,p,v6,fs)) (fun c p=>p.length=v5.length∧jQ (fun x:rW=>x.2.2.2.2.1.length*56≤aG) c p) ?step ?stop _ 0 v5 (by omega) (by omega) ⟨rfl,p5⟩) (fun d ⟨w5,h⟩=>?_) fun _ _=>trivial)
  case step=>
   rintro rec c p hc ⟨hp,hT⟩ kk
   dsimp only
   have hcp:c<p.length:=by omega
   have hw:=ld c (by omega)
   rw[cU (by omega),eN c,aA (show(c:Int)<(p.length:Int) by omega),eN c,aA rfl]
   refine lb.2 ((CX i u m p _ _ fs (hT.here (t:=gA) hcp) hm).st (fun _ _=>⟨_,rfl,trivial⟩) fun r ⟨x1,x2,x3,x4,x5,x6,hr⟩=>?_)
   subst hr
   rw[hw]
   exact kk _ ⟨by rw[cj];exact hp,hT.next _⟩
  case stop=>
   rintro rec p ⟨hp,hT⟩
   dsimp only
   rw[gn (by omega)]
   exact⟨_,rfl,p,rfl⟩
  subst h
  dsimp only
  refine bX.2 (W.ct (cP (L:=BB) rfl (CT (fun _=>True) fun _=>True) v6.length (fun c(p:ZI)=>((v6.length:Int),(c:Int),0,i,u,m,v1,us,w3,w4,w5,p,fs)) (fun c p=>p.length=v6.length∧jQ (fun x:oi=>x.2.1.length*48≤aG) c p) ?step ?stop _ 0 v6 (by omega) (by omega) ⟨rfl,p6⟩) (fun d h=>?_) fun _ _=>trivial)
  case step=>
   rintro rec c p hc ⟨hp,hT⟩ kk
   dsimp only
   have hcp:c<p.length:=by omega
   have hw:=ld c (by omega)
   rw[cU (by omega),eN c,aA (show(c:Int)<(p.length:Int) by omega),eN c,aA rfl]
   refine lb.2 ((CY i u m p _ _ fs (hT.here (t:=dY) hcp) hm).st (fun _ _=>⟨_,rfl,trivial⟩) fun r ⟨x1,x2,x3,hr⟩=>?_)
   subst hr
   rw[hw]
   exact kk _ ⟨by rw[cj];exact hp,hT.next _⟩
  case stop=>
   rintro rec p ⟨hp,hT⟩
   dsimp only
   rw[gn (by omega)]
   exact⟨_,rfl,trivial⟩
  exact⟨_,rfl,trivial⟩
theorem A5(s:cM)(hs:SS s)(hb:BS s):∃r,f99 s=some r:=by
 obtain⟨⟨a,b⟩,e,_⟩:=CZ s hs hb
 unfold f99
 rw[e,aL]
 dsimp only
 obtain⟨q,hq⟩:=CV a s hs
 rw[hq,aL]
 repeat' (first|exact⟨_,rfl⟩|split)
structure SA(s:cM):Prop where
 ss:SS s
 bs:BS s
 sw:SW s
structure CG(s:cM)(l:Zg):Prop where
 tg:TG s
 rk:r9 s l
 sw:SW s
 od:Be s=some (l,true,0)
theorem MA(s:cM)(hs:SA s):∃r,f66 s=some r∧(r.1=0→r.2.1=s∧CG s r.2.2.1):=by
 have no:∀(x:Int)(y:Ba),(!decide (x=(0:Int)))=true→∃r,some (x,y)=some r∧(r.1=0→r.2.1=s∧CG s r.2.2.1):=fun x y hx=>⟨_,rfl,fun h=>by
  have:x=0:=h
  subst this
  cases hx⟩
 unfold f66
 obtain⟨r1,e1⟩:=A5 s hs.ss hs.bs
 obtain⟨r2,e2,_⟩:=yA s hs.sw
 obtain⟨r3,e3⟩:=wS s hs.ss
 obtain⟨r4,e4,m4⟩:=E6 s hs.sw
 obtain⟨r5,e5⟩:=E8 s hs.sw.nb hs.ss
 rw[e1,aL]
 by_cases h1:(!decide (r1=(0:Int)))=true
 ·rw[aA h1];exact no _ _ h1
 ·rw[aC h1,e2,aL]
  by_cases h2:(!decide (r2=(0:Int)))=true
  ·rw[aA h2];exact no _ _ h2
  ·rw[aC h2,e3,aL]
   by_cases h3:(!decide (r3=(0:Int)))=true
   ·rw[aA h3];exact no _ _ h3
   ·rw[aC h3,e4,aL]
    by_cases h4:(!decide (r4=(0:Int)))=true
    ·rw[aA h4];exact no _ _ h4
    ·rw[aC h4,e5,aL]
     by_cases h5:(!decide (r5=(0:Int)))=true
     ·rw[aA h5];exact no _ _ h5
     ·rw[aC h5,aI]
      obtain⟨hT,l,ho,hR⟩:=m4 (by simpa using h4)
      rw[ho,aL]
      exact⟨_,rfl,fun _=>⟨rfl,hT,hR,hs.sw,ho⟩⟩
end Go.Proofs.YtpmlkhjpbjnagaaGreat
