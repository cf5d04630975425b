/- part -/
import Derived.Test.YtkhfnbfpgcjllaaGreatDoorUO
import Derived.Test.YtkhfnbfpgcjllaaGreatDoorA5
import Derived.Test.YtkhfnbfpgcjllaaGreatDoorF7
noncomputable section
namespace Go.Proofs.YtkhfnbfpgcjllaaGreatDoor
open Go.Ax
theorem hB:aF=140737488355328:=rfl
theorem CN{l:Zd}{i j:Nat}(hi:i<l.length)(hj:j<l.length):px (i:Int) (j:Int) l=some (decide (l[i]<l[j]),l):=by
 have h1:(i:Int)<(l.length:Int):=by omega
 have h2:(j:Int)<(l.length:Int):=by omega
 simp only[px,cu,h1,h2,cC,cJ (t:=.int .i64) hi,cJ (t:=.int .i64) hj]
theorem swap_eq{l:Zd}{i j:Nat}(hi:i<l.length)(hj:j<l.length):∃l',nW (i:Int) (j:Int) l=some l'∧l'.Perm l:=by
 have h1:(i:Int)<(l.length:Int):=by omega
 have h2:(j:Int)<(l.length:Int):=by omega
 refine⟨(l.set i l[j]).set j l[i],?_,List.set_set_perm hi hj⟩
 simp only[nW,cu,h1,h2,cP,cC,cJ (t:=.int .i64) hi,cJ (t:=.int .i64) hj,dV]
theorem upL:∀(n c:Nat)(d:Zd),c<n→c<d.length→d.length≤aF→W (tW n ((c:Int),d)) (CT (fun d'=>d'.Perm d) fun _=>False):=by
 intro n
 induction n with
 |zero=>intro c d h;omega
 |
  succ n ih=>
  intro c d hn hc hb
  unfold tW at ih ⊢
  rw[aK]
  generalize aL _ n=rec at ih ⊢
  have hB:=hB
  dsimp only
  cases c with
  |
   zero=>
   rw[aA (by decide)]
   exact xd.2 (kJ.2 (List.Perm.refl _))
  |
   succ c=>
   have e1:aQ (((c+1:Nat):Int) -1)=(c:Int):=by rw[dR (by omega) (by omega)];omega
   have e2:aQ (Int.tdiv (c:Int) 2)=((c / 2:Nat):Int):=by
    have:Int.tdiv (c:Int) 2=((c / 2:Nat):Int):=rfl
    rw[this,dR (by omega) (by omega)]
   rw[e1,e2,aB (by rw[rE];omega),CN hc (by omega),aD]
   dsimp only
   by_cases hl:d[c+1]<d[c / 2]
   ·rw[aB (by simp[hl])]
    obtain⟨l',e,p⟩:=swap_eq (l:=d) (i:=c / 2) (j:=c+1) (by omega) hc
    rw[e,aD]
    exact(ih (c / 2) l' (by omega) (by rw[p.length_eq];omega) (by rw[p.length_eq];exact hb)).ct (fun _ h=>h.trans p) fun _ h=>h
   ·rw[aA (by simp[hl])]
    exact xd.2 (kJ.2 (List.Perm.refl _))
theorem JP{a:Int}{l:Zd}(h:(l.length+1)*8≤aF):∃q,uI a l=some q∧q.Perm (a::l):=by
 have hB:=hB
 have e1:Cv a l=some (l++[a]):=aA h
 have e2:uH (l++[a])=some (((l++[a]).length:Int),l++[a]):=rfl
 have hl:(l++[a]).length=l.length+1:=by rw[cz];rfl
 have e3:aQ (((l++[a]).length:Int) -1)=(l.length:Int):=by rw[hl,dR (by omega) (by omega)];omega
 obtain⟨o,ho,hp⟩:=upL dA l.length (l++[a]) (Jt (by omega)) (by omega) (by omega)
 unfold uI
 rw[e1,aD,e2,aD]
 dsimp only
 rw[e3]
 unfold Cu
 rw[ho]
 cases o with
 |aS d=>exact⟨d,rfl,(show d.Perm (l++[a]) from hp).trans (List.perm_append_singleton a l)⟩
 |ret r=>exact(show False from hp).elim
theorem YN:∀(m:Nat)(q:Int)(o p:Nat)(r:Zd),o -p<m→p≤o→o≤r.length→r.length≤aF→
 W (pX m (q,(o:Int),(p:Int),r)) (CT (fun u=>u.2.2.Perm r) fun _=>False):=by
 intro m
 induction m with
 |zero=>intro q o p r h;omega
 |
  succ m ih=>
  intro q o p r hm hpo hor hb
  unfold pX at ih ⊢
  rw[aK]
  generalize aL _ m=rec at ih ⊢
  have hB:=hB
  dsimp only
  have e0:aQ ((2:Int)*(p:Int))=((2*p:Nat):Int):=by rw[dR (by omega) (by omega)];omega
  have e1:aQ (((2*p:Nat):Int)+1)=((2*p+1:Nat):Int):=by rw[dR (by omega) (by omega)];omega
  rw[e0,e1]
  by_cases h1:o≤2*p+1
  ·rw[aA (show decide ((o:Int)≤((2*p+1:Nat):Int))=true by simp only[rE];omega),aD,aA rfl]
   exact xd.2 (kJ.2 (List.Perm.refl _))
  ·rw[aB (show¬decide ((o:Int)≤((2*p+1:Nat):Int))=true by simp only[rE];omega),aD,eF (by omega),aC]
   dsimp only
   have e2:aQ (((2*p+1:Nat):Int)+1)=((2*p+2:Nat):Int):=by rw[dR (by omega) (by omega)];omega
   rw[e2]
   have key:∀j:Nat,p<j→j<o→W (Option.bind (px (j:Int) (p:Int) r) fun⟨m',n⟩=>if(!m')=true then(some (.aS (q,(p:Int),n))) else(Option.bind (nW (p:Int) (j:Int) n) fun y9=>rec (q,(o:Int),(j:Int),y9))) (CT (fun u:Int×Int×Zd=>u.2.2.Perm r) fun _:Bool×Zd=>False):=by
    intro j hj1 hj2
    rw[CN (by omega) (by omega),aD]
    dsimp only
    split
    ·exact xd.2 (kJ.2 (List.Perm.refl _))
    ·obtain⟨l',e,pm⟩:=swap_eq (l:=r) (i:=p) (j:=j) (by omega) (by omega)
     rw[e,aD]
     exact(ih q o j l' (by omega) (by omega) (by rw[pm.length_eq];omega) (by rw[pm.length_eq];exact hb)).ct (fun _ h=>h.trans pm) fun _ h=>h
   by_cases h2:2*p+2<o
   ·rw[aA (show decide (((2*p+2:Nat):Int)<(o:Int))=true by simp only[rE];omega),CN (by omega) (by omega),aD]
    dsimp only
    split
    ·rw[aC];exact key _ (by omega) h2
    ·rw[aC];exact key _ (by omega) (by omega)
   ·rw[aB (show¬decide (((2*p+2:Nat):Int)<(o:Int))=true by simp only[rE];omega),aC]
    exact key _ (by omega) (by omega)
theorem VJ{l:Zd}(hne:l≠[])(hb:l.length≤aF):∃x q,pY l=some (x,q)∧(x::q).Perm l:=by
 have hB:=hB
 have hpos:0<l.length:=List.length_pos_iff.2 hne
 obtain⟨n,hn⟩:∃n,l.length=n+1:=⟨l.length -1,by omega⟩
 have e2:uH l=some ((l.length:Int),l):=rfl
 have e3:aQ ((l.length:Int) -1)=(n:Int):=by rw[hn,dR (by omega) (by omega)];omega
 obtain⟨l',e4,p4⟩:=swap_eq (l:=l) (i:=0) (j:=n) (by omega) (by omega)
 have hl':l'.length=n+1:=by rw[p4.length_eq,hn]
 obtain⟨o,ho,hp⟩:=YN dA 0 n 0 l' (Jt (by omega)) (by omega) (by omega) (by omega)
 cases o with
 |ret r=>exact(show False from hp).elim
 |
  aS d=>
  obtain⟨d1,d2,c⟩:=d
  have pc:c.Perm l':=hp
  have hc:c.length=n+1:=by rw[pc.length_eq,hl']
  have e5:yl 0 (n:Int) l'=some (decide (d1<d2),c):=by
   unfold yl
   have ho':pX dA ((0:Int),(n:Int),(0:Int),l')=some (.aS (d1,d2,c)):=ho
   rw[ho',aC]
  have e6:ym c=some (c[n]'(by omega),c.take n):=by
   have h7:aQ ((c.length:Int) -1)=(n:Int):=by rw[hc,dR (by omega) (by omega)];omega
   have h8:(n:Int)<(c.length:Int):=by omega
   have h9:(n:Int)≤(c.length:Int):=by omega
   simp only[ym,h7,cu,h8,h9,cC,cJ (t:=.int .i64) (show n<c.length by omega),dV,Nat.sub_zero]
  refine⟨c[n]'(by omega),c.take n,?_,?_⟩
  ·unfold pY
   rw[e2,aD]
   dsimp only
   rw[e3]
   have e4':nW (0:Int) (n:Int) l=some l':=e4
   rw[e4',aD,e5,aD]
   dsimp only
   rw[e6,aD]
  ·have h:c.take n++[c[n]'(by omega)]=c:=by
    have:=oL n c
    rw[iA (show n<c.length by omega),qO (by omega)] at this
    exact this
   have q:=List.perm_append_singleton (c[n]'(by omega)) (c.take n)
   rw[h] at q
   exact q.symm.trans (pc.trans p4)
theorem tz{α:Type}:∀{l:List α}{i:Nat}(h:i<l.length),(l[i]::l.eraseIdx i).Perm l
 |x::l,0,_=>List.Perm.refl _
 |
  x::l,i+1,h=>by
  have h':i<l.length:=by rw[da] at h;omega
  exact(List.Perm.swap x l[i] _).trans ((tz h').cons x)
def nd(g:gV)(h:Int):Zr:=bA (aO (.int .i64) (.map (.int .i64) .bool) h (bA g.2.1))
def ks(g:gV)(h:Int):Zd:=(nd g h).map (·.1)
def n6(e:vY)(k:Zd)(f:Int):vY:=e.mapIdx fun j row=>if(j:Int)∈k then row++[f] else row
theorem oJ(e:vY)(k:Zd)(f:Int):(n6 e k f).length=e.length:=by unfold n6;rw[List.length_mapIdx]
theorem Lo(e:vY)(f:Int):n6 e [] f=e:=by
 refine List.ext_getElem (oJ e [] f) fun j h1 h2=>?_
 simp only[n6,List.getElem_mapIdx,List.not_mem_nil,dc]
theorem EG{e:vY}{k k':Zd}{f:Int}(h:∀x,x∈k↔x∈k'):n6 e k f=n6 e k' f:=by
 unfold n6
 congr 1
 funext j row
 simp only[h]
theorem Lp{e:vY}{k:Zd}{f:Int}{x:Nat}(hx:x<e.length)(hk:(x:Int)∉k):n6 (e.set x (e.getD x []++[f])) k f=n6 e ((x:Int)::k) f:=by
 refine List.ext_getElem (by rw[oJ,oJ,cP]) fun j h1 h2=>?_
 have hj:j<e.length:=by rw[oJ] at h2;exact h2
 simp only[n6,List.getElem_mapIdx,List.getElem_set,eN]
 by_cases hxj:x=j
 ·subst hxj
  rw[aB hk,aA rfl,aA (Or.inl rfl),uQ,rF hx,Option.getD_some]
 ·have hne:¬((j:Int)=(x:Int)):=by omega
  simp only[aB hxj,hne,false_or]
theorem YO(f b c:Int)(d:gV):∀(n:Nat)(a:Zr)(e:vY),a.length<n→(a.map (·.1)).Nodup→(∀x∈a.map (·.1),0≤x∧x<(e.length:Int))→(∀x:Nat,(x:Int)∈a.map (·.1)→((e.getD x []).length+1)*8≤aF)→
 pv n (f,b,c,d,e,a)=some (.aS (b,c,d,n6 e (a.map (·.1)) f)):=by
 intro n
 induction n with
 |zero=>intro a e h;omega
 |
  succ n ih=>
  intro a e hn hd hr hs
  unfold pv at ih ⊢
  rw[aK]
  generalize aL _ n=rec at ih ⊢
  dsimp only
  cases hA:a with
  |
   nil=>
   rw[aA (show List.isEmpty ([]:Zr)=true from rfl)]
   simp only[List.map_nil,Lo]
  |
   cons y l=>
   rw[←hA,aB (by rw[hA];simp)]
   refine Lm (by rw[hA];simp) fun i hi=>?_
   have p:=tz hi
   have pm:=p.map (·.1)
   have hd':((a[i]::a.eraseIdx i).map (·.1)).Nodup:=pm.nodup_iff.2 hd
   rw[fp,lE] at hd'
   have apM:a[i].1∈a.map (·.1):=List.mem_map_of_mem (lD hi)
   obtain⟨h0,h1⟩:=hr _ apM
   obtain⟨x,hx⟩:∃x:Nat,a[i].1=(x:Int):=⟨a[i].1.toNat,by omega⟩
   have hxl:x<e.length:=by omega
   rw[hx] at h0 h1 hd' apM ⊢
   have hs1:=hs x apM
   have hsz:(List.length (List.getD e x [])+List.length [f])*8≤aF:=hs1
   simp only[h0,h1,cC,dV,aA hsz]
   rw[ih]
   ·rw[Lp hxl hd'.1]
    refine congrArg (fun z=>some (dN.aS (b,c,d,z))) (EG fun z=>?_)
    have:=(pm.mem_iff (a:=z))
    rw[fp,hx] at this
    exact this
   ·have:=p.length_eq
    rw[da] at this
    omega
   ·exact hd'.2
   ·intro z hz
    rw[cP]
    exact hr z (pm.mem_iff.1 (by rw[fp];exact dH _ hz))
   ·intro z hz
    have hne:x≠z:=fun h=>hd'.1 (h▸hz)
    rw[uQ,List.getElem?_set_ne hne,←uQ]
    exact hs z (pm.mem_iff.1 (by rw[fp];exact dH _ hz))
structure GG(g:gV)(m:Nat):Prop where
 many:g.1=(m:Int)
 small:m≤1000000
 nodup:∀h,(ks g h).Nodup
 range:∀h x,x∈ks g h→0≤x∧x<(m:Int)
def us(g:gV)(m e:Nat):vY:=(List.range m).map fun j:Nat=>((List.range e).filter fun h:Nat=>decide ((j:Int)∈ks g (h:Int))).map fun h:Nat=>(h:Int)
theorem wq(g:gV)(m e:Nat):(us g m e).length=m:=by simp[us]
theorem Rp(g:gV)(m e:Nat):n6 (us g m e) (ks g (e:Int)) (e:Int)=us g m (e+1):=by
 refine List.ext_getElem (by rw[oJ,wq,wq]) fun j h1 h2=>?_
 simp only[n6,us,List.getElem_mapIdx,List.getElem_map,List.getElem_range,List.range_succ,List.filter_append,qN,jC,List.filter_nil]
 by_cases h:(j:Int)∈ks g (e:Int)
 ·simp[h]
 ·simp[h]
theorem Rq(g:gV)(m:Nat):us g m 0=List.replicate m []:=by
 refine List.ext_getElem (by rw[wq,gn]) fun j h1 h2=>?_
 simp[us]
theorem VK{g:gV}{m e x:Nat}:((us g m e).getD x []).length≤e:=by
 rw[uQ]
 by_cases h:x<(us g m e).length
 ·rw[rF h,Option.getD_some]
  simp only[us,List.getElem_map,gv]
  exact cW (n7 _ _) (by simp)
 ·rw[List.getElem?_eq_none (by omega)]
  simp
theorem YP{g:gV}{m:Nat}(hg:GG g m):∀(n e:Nat),m -e<n→e≤m→pw n ((m:Int),(e:Int),g,us g m e)=some (.aS (us g m m)):=by
 intro n
 have hB:=hB
 have hsm:=hg.small
 induction n with
 |zero=>intro e h;omega
 |
  succ n ih=>
  intro e hn he
  unfold pw at ih ⊢
  rw[aK]
  generalize aL _ n=rec at ih ⊢
  dsimp only
  by_cases h:e<m
  ·rw[aA (show decide ((e:Int)<(m:Int))=true by simp only[rE];omega)]
   have key:=YO (e:Int) (m:Int) (e:Int) g ((nd g (e:Int)).length+1) (nd g (e:Int)) (us g m e) (by omega) (hg.nodup _) (fun x hx=>by rw[wq];exact hg.range _ x hx) (fun x _=>by have:=VK (g:=g) (m:=m) (e:=e) (x:=x);omega)
   unfold nd at key
   rw[key,aC]
   dsimp only
   rw[show aQ ((e:Int)+1)=((e+1:Nat):Int) from bU (by omega),show n6 (us g m e) ((bA (aO (.int .i64) (.map (.int .i64) .bool) (e:Int) (bA g.2.1))).map (·.1)) (e:Int)=us g m (e+1) from Rp g m e]
   exact ih (e+1) (by omega) (by omega)
  ·have:e=m:=by omega
   subst this
   rw[eF (by omega)]
theorem ME{g:gV}{m:Nat}(hg:GG g m):EB g=some (us g m m):=by
 have hB:=hB
 have hsm:=hg.small
 unfold EB
 rw[hg.many,dK m,aA (fQ _),aA (by omega),dV,←Rq g]
 have:=YP hg (m+1) 0 (by omega) (by omega)
 have h0:pw (m+1) ((m:Int),(0:Int),g,us g m 0)=some (.aS (us g m m)):=this
 rw[h0,aC]
theorem jZ:∀(m:Nat)(l:Zd),l.Nodup→(∀x∈l,0≤x∧x<(m:Int))→l.length≤m:=by
 intro m
 induction m with
 |
  zero=>
  intro l _ h
  cases l with
  |nil=>exact cV _
  |cons x l=>have:=h x (dx ..);omega
 |
  succ m ih=>
  intro l hd h
  by_cases hm:(m:Int)∈l
  ·have h1:=ih (l.erase (m:Int)) (hd.erase _) fun x hx=>by
    have:=(hd.mem_erase_iff).1 hx
    have:=h x this.2
    omega
   have h2:=List.length_erase_of_mem hm
   have h3:=List.length_pos_of_mem hm
   omega
  ·have:=ih l hd fun x hx=>by
    have h1:=h x hx
    have:x≠(m:Int):=fun e=>hm (e▸hx)
    omega
   omega
def HC(g:gV)(out:Zd)(h:Int):Nat:=((ks g h).filter fun x=>decide (x∉out)).length
theorem JQ(g:gV)(h:Int):HC g [] h=(ks g h).length:=by simp[HC]
theorem VL{g:gV}{m:Nat}(hg:GG g m)(out:Zd)(h:Int):HC g out h≤m:=
 cW (n7 _ _) (jZ m _ (hg.nodup h) (hg.range h))
theorem HD:∀(l:Zd)(out:Zd)(x:Int),l.Nodup→x∉out→
 (l.filter fun z=>decide (z∉out)).length=(l.filter fun z=>decide (z∉out++[x])).length+(if x∈l then 1 else 0):=by
 intro l
 induction l with
 |nil=>intro out x _ _;rfl
 |
  cons y l ih=>
  intro out x hd hx
  rw[lE] at hd
  have:=ih out x hd.2 hx
  by_cases hyx:y=x
  ·subst hyx
   rw[aB hd.1] at this
   rw[List.filter_cons_of_pos (by simpa using hx),List.filter_cons_of_neg (by simp),aA (dx ..),da,this]
  ·have apM:(x∈y::l)=(x∈l):=by simp[Ne.symm hyx]
   simp only[apM]
   by_cases hyo:y∈out
   ·rw[List.filter_cons_of_neg (by simp[hyo]),List.filter_cons_of_neg (by simp[hyo])]
    exact this
   ·rw[List.filter_cons_of_pos (by simp[hyo]),List.filter_cons_of_pos (by simp[hyo,hyx]),da,da,this]
    omega
theorem JR{g:gV}{m:Nat}(hg:GG g m){out:Zd}{x h:Int}(hx:x∉out):HC g out h=HC g (out++[x]) h+if x∈ks g h then 1 else 0:=
 HD _ _ _ (hg.nodup h) hx
abbrev Yc(y:YC):ZO:=fun d=>kA y d.1 d.2.1 d.2.2.1 d.2.2.2.1 d.2.2.2.2.1
theorem YQ(y:YC)(x:Int)(acc:Zd)(h:(acc.length+1)*8≤aF):kA y x y 0 (y.gs 1) acc=some (true,y,0,y.gs 1,acc++[x]):=by
 unfold kA
 rw[gw]
 simp only[cC,da,fO,ek,aA h,aD,Nat.beq]
structure L3(g:gV)(m a:Nat)(c e:Zd):Prop where
 len:c.length=m
 num:∀h<a,c[h]? =some ((ks g (h:Int)).length:Int)
 oK:e.Nodup
 mem:∀x,x∈e↔∃h:Nat,h<a∧x=(h:Int)∧(ks g (h:Int)).length=0
theorem YR{g:gV}{m:Nat}(hg:GG g m)(U:vY):∀(n a:Nat)(c e:Zd),m -a<n→a≤m→L3 g m a c e→
 ∃c' e',L3 g m m c' e'∧∀(y:YC)(k:Zd),iv y.l (Yc y) n (y.l,g,U,(m:Int),(a:Int),y,0,y.gs 1,k,c,e)=some (.aS (y.l,U,y,0,y.gs 1,k,c',e')):=by
 intro n
 have hB:=hB
 have hsm:=hg.small
 induction n with
 |zero=>intro a c e h;omega
 |
  succ n ih=>
  intro a c e hn ha hL
  have hstep:∀y k,iv y.l (Yc y) (n+1) (y.l,g,U,(m:Int),(a:Int),y,0,y.gs 1,k,c,e)=_:=fun y k=>by unfold iv;rw[aK]
  by_cases h:a<m
  ·have hl:a<c.length:=by rw[hL.len];exact h
   have d1:decide ((a:Int)<(m:Int))=true:=by simp only[rE];omega
   have d2:((a:Int)<(c.length:Int))=True:=by simp only[eq_iff_iff,iff_true];omega
   have e0:(List.length (bA (aO (.int .i64) (.map (.int .i64) .bool) (a:Int) (bA g.2.1))):Int)=((ks g (a:Int)).length:Int):=by simp[ks,nd]
   generalize hc2:c.set a ((ks g (a:Int)).length:Int)=c2
   have hc2l:c2.length=m:=by rw[←hc2,cP,hL.len]
   have apf:nth (.int .i64) c2 (a:Int)=((ks g (a:Int)).length:Int):=by
    rw[cJ (t:=.int .i64) (show a<c2.length by omega)]
    subst hc2
    exact List.getElem_set_self ..
   have d3:((a:Int)<(c2.length:Int))=True:=by simp only[eq_iff_iff,iff_true];omega
   have hnum:∀z<a+1,c2[z]? =some ((ks g (z:Int)).length:Int):=by
    intro z hz
    subst hc2
    by_cases hza:z=a
    ·subst hza
     rw[List.getElem?_set_self hl]
    ·rw[List.getElem?_set_ne (Ne.symm hza)]
     exact hL.num z (by omega)
   have hw:aQ ((a:Int)+1)=((a+1:Nat):Int):=bU (by omega)
   by_cases hz:(ks g (a:Int)).length=0
   ·have hle:e.length≤m:=jZ m e hL.oK fun x hx=>by
     obtain⟨h',h1,h2,_⟩:=(hL.mem x).1 hx
     omega
    obtain⟨e2,he2,p⟩:=JP (a:=(a:Int)) (l:=e) (by omega)
    have hna:(a:Int)∉e:=fun hm=>by
     obtain⟨h',h1,h2,_⟩:=(hL.mem _).1 hm
     omega
    obtain⟨c',e',hL',hf⟩:=ih (a+1) c2 e2 (by omega) (by omega) ⟨hc2l,hnum,p.nodup_iff.2 (List.nodup_cons.2 ⟨hna,hL.oK⟩),fun x=>by
     rw[p.mem_iff,eN,hL.mem]
     constructor
     ·rintro(rfl|⟨h',h1,h2,h3⟩)
      ·exact⟨a,by omega,rfl,hz⟩
      ·exact⟨h',by omega,h2,h3⟩
     ·rintro⟨h',h1,h2,h3⟩
      by_cases hh:h'=a
      ·subst hh;exact Or.inl h2
      ·exact Or.inr ⟨h',by omega,h2,h3⟩⟩
    refine⟨c',e',hL',fun y k=>?_⟩
    rw[hstep]
    have hf:=hf y k
    unfold iv at hf
    have d4:decide (((ks g (a:Int)).length:Int)=(0:Int))=true:=by rw[hz];rfl
    simp only[d1,cu,d2,e0,dV,hc2,d3,apf,d4,cC,he2,aD,hw]
    exact hf
   ·obtain⟨c',e',hL',hf⟩:=ih (a+1) c2 e (by omega) (by omega) ⟨hc2l,hnum,hL.oK,fun x=>by
     rw[hL.mem]
     constructor
     ·rintro⟨h',h1,h2,h3⟩
      exact⟨h',by omega,h2,h3⟩
     ·rintro⟨h',h1,h2,h3⟩
      by_cases hh:h'=a
      ·subst hh;exact absurd h3 hz
      ·exact⟨h',by omega,h2,h3⟩⟩
    refine⟨c',e',hL',fun y k=>?_⟩
    rw[hstep]
    have hf:=hf y k
    unfold iv at hf
    have d4:decide (((ks g (a:Int)).length:Int)=(0:Int))=false:=cD (by omega)
    simp only[d1,cu,d2,e0,dV,hc2,d3,apf,d4,cC,dv,dc,hw]
    exact hf
  ·have:a=m:=by omega
   subst this
   refine⟨c,e,hL,fun y k=>?_⟩
   rw[hstep]
   have d1:decide ((a:Int)<(a:Int))=false:=cD (by omega)
   simp only[d1,dv,dc]
structure L13(m:Nat)(row:Zd)(op0:Nat→Nat)(q0:Zd)(a:Nat)(d e:Zd):Prop where
 len:d.length=m
 num:∀h<m,d[h]? =some ((op0 h:Int) -if(h:Int)∈row.take a then 1 else 0)
 oK:e.Nodup
 mem:∀x,x∈e↔x∈q0∨∃h:Nat,x=(h:Int)∧(h:Int)∈row.take a∧op0 h=1
theorem VM{g:gV}{m:Nat}(hg:GG g m)(U:vY)(row:Zd)(op0:Nat→Nat)(q0:Zd)
 (hrd:row.Nodup) (hrr:∀x∈row,∃h:Nat,h<m∧x=(h:Int)∧1≤op0 h∧x∉q0) (hop:∀h,op0 h≤m) (hq:∀x∈q0,0≤x∧x<(m:Int)):
 ∀(n a:Nat)(d e:Zd),row.length -a<n→a≤row.length→L13 m row op0 q0 a d e→
 ∃d' e',L13 m row op0 q0 row.length d' e'∧∀(y:YC)(k:Zd),gF y.l (Yc y) n (y.l,U,row,(row.length:Int),(a:Int),y,0,y.gs 1,d,k,e)=some (.aS (y.l,U,y,0,y.gs 1,d',k,e')):=by
 intro n
 have hB:=hB
 have hsm:=hg.small
 have hrl:row.length≤m:=jZ m row hrd fun x hx=>by obtain⟨h,h1,h2,_⟩:=hrr x hx;omega
 induction n with
 |zero=>intro a d e h;omega
 |
  succ n ih=>
  intro a d e hn ha hL
  have hstep:∀y k,gF y.l (Yc y) (n+1) (y.l,U,row,(row.length:Int),(a:Int),y,0,y.gs 1,d,k,e)=_:=fun y k=>by unfold gF;rw[aK]
  by_cases h:a<row.length
  ·have d2:((a:Int)<(row.length:Int))=True:=by simp only[eq_iff_iff,iff_true];omega
   obtain⟨u,hu,hru,hu1,huq⟩:=hrr row[a] (lD h)
   have hn1:nth (.int .i64) row (a:Int)=(u:Int):=by rw[cJ (t:=.int .i64) h,hru]
   have hul:u<d.length:=by rw[hL.len];exact hu
   have hnt:(u:Int)∉row.take a:=fun hm=>by
    have h1:=oL a row
    rw[←h1,List.nodup_append] at hrd
    have h2:(u:Int)∈row.drop a:=by rw[iA h,hru];exact dx ..
    exact hrd.2.2 _ hm _ h2 rfl
   have hdu:nth (.int .i64) d (u:Int)=(op0 u:Int):=by
    rw[cJ (t:=.int .i64) hul]
    have:=hL.num u hu
    rw[rF hul,aB hnt,Int.sub_zero] at this
    exact fP this
   have hw1:aQ ((op0 u:Int) -1)=(op0 u:Int) -1:=dR (by omega) (by have:=hop u;omega)
   have d3:((u:Int)<(d.length:Int))=True:=by simp only[eq_iff_iff,iff_true];omega
   generalize hc2:d.set u ((op0 u:Int) -1)=d2'
   have hc2l:d2'.length=m:=by rw[←hc2,cP,hL.len]
   have d4:((u:Int)<(d2'.length:Int))=True:=by simp only[eq_iff_iff,iff_true];omega
   have apf:nth (.int .i64) d2' (u:Int)=(op0 u:Int) -1:=by
    rw[cJ (t:=.int .i64) (show u<d2'.length by omega)]
    subst hc2
    exact List.getElem_set_self ..
   have htk:∀z:Int,z∈row.take (a+1)↔z∈row.take a∨z=(u:Int):=fun z=>by
    rw[List.take_succ_eq_append_getElem h,j5,lC,hru]
   have hnum:∀z<m,d2'[z]? =some ((op0 z:Int) -if(z:Int)∈row.take (a+1) then 1 else 0):=by
    intro z hz
    subst hc2
    by_cases hzu:z=u
    ·subst hzu
     rw[List.getElem?_set_self hul,aA ((htk _).2 (Or.inr rfl))]
    ·rw[List.getElem?_set_ne (Ne.symm hzu),hL.num z hz]
     have:((z:Int)∈row.take (a+1))=((z:Int)∈row.take a):=by
      rw[eq_iff_iff,htk]
      exact⟨fun h=>h.resolve_right (by omega),Or.inl⟩
     simp only[this]
   have hw:aQ ((a:Int)+1)=((a+1:Nat):Int):=bU (by omega)
   by_cases hz:op0 u=1
   ·have hna:(u:Int)∉e:=fun hm=>by
     rcases(hL.mem _).1 hm with h1|⟨h',h1,h2,_⟩
     ·exact huq (hru▸h1)
     ·have:h'=u:=by omega
      subst this;exact hnt h2
    have hle:e.length≤m:=jZ m e hL.oK fun x hx=>by
     rcases(hL.mem x).1 hx with h1|⟨h',h1,h2,_⟩
     ·exact hq x h1
     ·obtain⟨h'',h3,h4,_⟩:=hrr _ (List.mem_of_mem_take h2)
      omega
    obtain⟨e2,he2,p⟩:=JP (a:=(u:Int)) (l:=e) (by omega)
    obtain⟨d',e',hL',hf⟩:=ih (a+1) d2' e2 (by omega) (by omega) ⟨hc2l,hnum,p.nodup_iff.2 (List.nodup_cons.2 ⟨hna,hL.oK⟩),fun x=>by
     rw[p.mem_iff,eN,hL.mem]
     constructor
     ·rintro(rfl|h1|⟨h',h1,h2,h3⟩)
      ·exact Or.inr ⟨u,rfl,(htk _).2 (Or.inr rfl),hz⟩
      ·exact Or.inl h1
      ·exact Or.inr ⟨h',h1,(htk _).2 (Or.inl h2),h3⟩
     ·rintro(h1|⟨h',h1,h2,h3⟩)
      ·exact Or.inr (Or.inl h1)
      ·rcases(htk _).1 h2 with h2|h2
       ·exact Or.inr (Or.inr ⟨h',h1,h2,h3⟩)
       ·exact Or.inl (h1.trans h2)⟩
    refine⟨d',e',hL',fun y k=>?_⟩
    rw[hstep]
    have hf:=hf y k
    unfold gF at hf
    have d5:decide ((op0 u:Int) -1=(0:Int))=true:=bR (by omega)
    simp only[cu,d2,hn1,hdu,hw1,d3,dV,hc2,d4,apf,d5,cC,he2,aD,hw]
    exact hf
   ·obtain⟨d',e',hL',hf⟩:=ih (a+1) d2' e (by omega) (by omega) ⟨hc2l,hnum,hL.oK,fun x=>by
     rw[hL.mem]
     constructor
     ·rintro(h1|⟨h',h1,h2,h3⟩)
      ·exact Or.inl h1
      ·exact Or.inr ⟨h',h1,(htk _).2 (Or.inl h2),h3⟩
     ·rintro(h1|⟨h',h1,h2,h3⟩)
      ·exact Or.inl h1
      ·rcases(htk _).1 h2 with h2|h2
       ·exact Or.inr ⟨h',h1,h2,h3⟩
       ·have:h'=u:=by omega
        subst this;exact absurd h3 hz⟩
    refine⟨d',e',hL',fun y k=>?_⟩
    rw[hstep]
    have hf:=hf y k
    unfold gF at hf
    have d5:decide ((op0 u:Int) -1=(0:Int))=false:=cD (by omega)
    simp only[cu,d2,hn1,hdu,hw1,d3,dV,hc2,d4,apf,d5,cC,dv,dc,hw]
    exact hf
  ·have:a=row.length:=by omega
   subst this
   refine⟨d,e,hL,fun y k=>?_⟩
   rw[hstep]
   have d1:decide ((row.length:Int)<(row.length:Int))=false:=cD (by omega)
   simp only[d1,dv,dc]
structure KI(g:gV)(m:Nat)(q out op:Zd):Prop where
 len:op.length=m
 num:∀h<m,op[h]? =some (HC g out (h:Int):Int)
 oK:(q++out).Nodup
 A6:∀x∈q++out,0≤x∧x<(m:Int)
 zero:∀h:Nat,h<m→((h:Int)∈q++out↔HC g out (h:Int)=0)
 pre:∀i(hi:i<out.length),∀x∈ks g out[i],x∈out.take i
structure KO(g:gV)(m:Nat)(out:Zd):Prop where
 oK:out.Nodup
 A6:∀x∈out,0≤x∧x<(m:Int)
 pre:∀i(hi:i<out.length),∀x∈ks g out[i],x∈out.take i
theorem VN{g:gV}{m x:Nat}(hx:x<m):nth (.slice 8 (.int .i64)) (us g m m) (x:Int)=((List.range m).filter fun h:Nat=>decide ((x:Int)∈ks g (h:Int))).map fun h:Nat=>(h:Int):=by
 rw[cJ (t:=.slice 8 (.int .i64)) (show x<(us g m m).length by rw[wq];exact hx)]
 simp only[us,List.getElem_map,List.getElem_range]
theorem YS{g:gV}{m:Nat}(hg:GG g m):∀(n:Nat)(q out op:Zd),m -out.length<n→KI g m q out op→
 ∃out',KO g m out'∧∀y:YC,gP y.l (Yc y) n (y.l,us g m m,y,0,y.gs 1,op,q,out)=some (.aS (y,0,y.gs 1,out')):=by
 intro n
 have hB:=hB
 have hsm:=hg.small
 induction n with
 |zero=>intro q out op h;omega
 |
  succ n ih=>
  intro q out op hn hK
  have hstep:∀y,gP y.l (Yc y) (n+1) (y.l,us g m m,y,0,y.gs 1,op,q,out)=_:=fun y=>by unfold gP;rw[aK]
  have hqn:q.Nodup:=(List.nodup_append.1 hK.oK).1
  have hon:out.Nodup:=(List.nodup_append.1 hK.oK).2.1
  have hdis:=(List.nodup_append.1 hK.oK).2.2
  have hor:∀x∈out,0≤x∧x<(m:Int):=fun x hx=>hK.A6 x (iX _ hx)
  by_cases hq:q= []
  ·subst hq
   refine⟨out,⟨hon,hor,hK.pre⟩,fun y=>?_⟩
   rw[hstep]
   have e1:A5 []=some (0:Int):=rfl
   simp only[e1,aD,show decide ((0:Int)<0)=false from rfl,dv,dc]
  ·have hql:q.length≤m:=jZ m q hqn fun x hx=>hK.A6 x (iF _ hx)
   obtain⟨x0,q1,hpop,p⟩:=VJ hq (by omega)
   have hxq:x0∈q:=p.mem_iff.1 (dx ..)
   obtain⟨x,hx,rfl⟩:∃x:Nat,x<m∧x0=(x:Int):=by
    have:=hK.A6 x0 (iF _ hxq)
    exact⟨x0.toNat,by omega,by omega⟩
   have hpn:=List.nodup_cons.1 (p.nodup_iff.2 hqn)
   have hxo:(x:Int)∉out:=fun h=>hdis _ hxq _ h rfl
   have hx0:HC g out (x:Int)=0:=(hK.zero x hx).1 (iF _ hxq)
   have hol:(out++[(x:Int)]).length≤m:=jZ m _ (by
    rw[List.nodup_append]
    refine⟨hon,by simp,fun a ha b hb=>?_⟩
    rw[lC] at hb
    subst hb
    exact fun e=>hxo (e▸ha)) fun z hz=>by
    rcases List.mem_append.1 hz with h|h
    ·exact hor z h
    ·rw[lC] at h;omega
   rw[cz,bD] at hol
   generalize hrow:(((List.range m).filter fun h:Nat=>decide ((x:Int)∈ks g (h:Int))).map fun h:Nat=>(h:Int))=row
   have hrm:∀h:Nat,(h:Int)∈row↔h<m∧(x:Int)∈ks g (h:Int):=fun h=>by
    rw[←hrow,List.mem_map]
    constructor
    ·rintro⟨h',h1,h2⟩
     have:h'=h:=by omega
     subst this
     have:=List.mem_filter.1 h1
     exact⟨List.mem_range.1 this.1,bY this.2⟩
    ·rintro⟨h1,h2⟩
     exact⟨h,List.mem_filter.2 ⟨List.mem_range.2 h1,bR h2⟩,rfl⟩
   have hrn:row.Nodup:=by
    rw[←hrow]
    refine List.Pairwise.map _ (fun a b hab=>?_) (List.nodup_range.filter _)
    exact fun e=>hab (by omega)
   have hc1:∀h:Nat,(x:Int)∈ks g (h:Int)→1≤HC g out (h:Int):=fun h hm=>by
    rw[JR hg hxo,aA hm];omega
   have hrr:∀z∈row,∃h:Nat,h<m∧z=(h:Int)∧1≤HC g out (h:Int)∧z∉q1:=fun z hz=>by
    obtain⟨h,h1,h2⟩:=List.mem_map.1 (hrow▸hz)
    subst h2
    have h3:=(hrm h).1 hz
    refine⟨h,h3.1,rfl,hc1 h h3.2,fun hm=>?_⟩
    have:=(hK.zero h h3.1).1 (iF _ (p.mem_iff.1 (dH _ hm)))
    have:=hc1 h h3.2
    omega
   obtain⟨d',e',hL,hf⟩:=VM hg (us g m m) row (fun h=>HC g out (h:Int)) q1 hrn hrr (fun h=>VL hg _ _) (fun z hz=>hK.A6 z (iF _ (p.mem_iff.1 (dH _ hz))))
    (row.length+1) 0 op q1 (by omega) (by omega) ⟨hK.len,fun h hh=>by rw[hK.num h hh];simp,hpn.2,fun z=>by simp⟩
   have hK':KI g m e' (out++[(x:Int)]) d':=by
    have hcnt:∀h:Nat,HC g out (h:Int)=HC g (out++[(x:Int)]) (h:Int)+if(x:Int)∈ks g (h:Int) then 1 else 0:=fun h=>JR hg hxo
    have apM:∀z,z∈e'↔z∈q1∨∃h:Nat,z=(h:Int)∧(h:Int)∈row∧HC g out (h:Int)=1:=fun z=>by
     have:=hL.mem z
     rw[List.take_length] at this
     exact this
    have hq1:∀z,z∈q1→z∈q∧z≠(x:Int):=fun z hz=>⟨p.mem_iff.1 (dH _ hz),fun e=>hpn.1 (e▸hz)⟩
    refine⟨hL.len,fun h hh=>?_,?_,fun z hz=>?_,fun h hh=>?_,fun i hi z hz=>?_⟩
    ·have:=hL.num h hh
     rw[List.take_length] at this
     rw[this]
     have h1:=hcnt h
     by_cases hxk:(x:Int)∈ks g (h:Int)
     ·rw[aA hxk] at h1
      rw[aA ((hrm h).2 ⟨hh,hxk⟩)]
      exact congrArg some (by omega)
     ·rw[aB hxk] at h1
      rw[aB (fun hm=>hxk ((hrm h).1 hm).2)]
      exact congrArg some (by omega)
    ·rw[List.nodup_append]
     refine⟨hL.oK,?_,fun a ha b hb=>?_⟩
     ·rw[List.nodup_append]
      refine⟨hon,by simp,fun a ha b hb=>?_⟩
      rw[lC] at hb
      subst hb
      exact fun e=>hxo (e▸ha)
     ·rintro rfl
      rcases(apM a).1 ha with h1|⟨h,h1,h2,h3⟩
      ·rcases List.mem_append.1 hb with h4|h4
       ·exact hdis _ (hq1 a h1).1 _ h4 rfl
       ·exact(hq1 a h1).2 (List.mem_singleton.1 h4)
      ·subst h1
       have h4:(h:Int)∈q++out:=by
        rcases List.mem_append.1 hb with h5|h5
        ·exact iX _ h5
        ·rw[List.mem_singleton.1 h5];exact iF _ hxq
       have:=(hK.zero h ((hrm h).1 h2).1).1 h4
       omega
    ·rcases List.mem_append.1 hz with h1|h1
     ·rcases(apM z).1 h1 with h2|⟨h,h2,h3,_⟩
      ·exact hK.A6 z (iF _ (hq1 z h2).1)
      ·have:=((hrm h).1 h3).1;omega
     ·rcases List.mem_append.1 h1 with h2|h2
      ·exact hor z h2
      ·rw[lC] at h2;omega
    ·have h1:=hcnt h
     have h2:=hK.zero h hh
     rw[j5,j5,lC,apM]
     constructor
     ·rintro((h3|⟨h',h3,h4,h5⟩)|h3|h3)
      ·have:=h2.1 (iF _ (hq1 _ h3).1);omega
      ·have:h'=h:=by omega
       subst this
       rw[aA ((hrm _).1 h4).2] at h1;omega
      ·have:=h2.1 (iX _ h3);omega
      ·have:=h2.1 (iF _ (h3▸hxq));omega
     ·intro h3
      by_cases hz0:HC g out (h:Int)=0
      ·rcases List.mem_append.1 (h2.2 hz0) with h4|h4
       ·rcases List.mem_cons.1 (p.mem_iff.2 h4) with h5|h5
        ·exact Or.inr (Or.inr h5)
        ·exact Or.inl (Or.inl h5)
       ·exact Or.inr (Or.inl h4)
      ·by_cases hxk:(x:Int)∈ks g (h:Int)
       ·rw[aA hxk] at h1
        exact Or.inl (Or.inr ⟨h,rfl,(hrm h).2 ⟨hh,hxk⟩,by omega⟩)
       ·rw[aB hxk] at h1;omega
    ·by_cases hio:i<out.length
     ·rw[ze hio] at hz
      rw[ET (by omega)]
      exact hK.pre i hio z hz
     ·have hi':i=out.length:=by rw[cz,bD] at hi;omega
      subst hi'
      rw[uP (cV _)] at hz
      simp only[Nat.sub_self,List.getElem_singleton] at hz
      rw[ET (cV _),List.take_length]
      by_cases hzo:z∈out
      ·exact hzo
      ·have:z∈(ks g (x:Int)).filter fun w=>decide (w∉out):=List.mem_filter.2 ⟨hz,bR hzo⟩
       have h9:((ks g (x:Int)).filter fun w=>decide (w∉out))= []:=List.length_eq_zero_iff.1 hx0
       rw[h9] at this
       exact absurd this List.not_mem_nil
   obtain⟨out',hO,hr⟩:=ih e' (out++[(x:Int)]) d' (by rw[cz,bD];omega) hK'
   refine⟨out',hO,fun y=>?_⟩
   rw[hstep]
   have hr:=hr y
   have hf:=hf y (out++[(x:Int)])
   unfold gP at hr
   have e1:A5 q=some (q.length:Int):=rfl
   have d1:decide ((0:Int)<(q.length:Int))=true:=bR (by have:=List.length_pos_iff.2 hq;omega)
   have e2:Yc y ((x:Int),y,0,y.gs 1,out,())=some (true,y,0,y.gs 1,out++[(x:Int)]):=YQ y (x:Int) out (by omega)
   have d2:((x:Int)<((us g m m).length:Int))=True:=by rw[wq];simp only[eq_iff_iff,iff_true];omega
   simp only[e1,aD,d1,cC,hpop,e2,tC,dv,dc,aC,cu,d2,VN hx,hrow,dV]
   have hf':gF y.l (Yc y) (row.length+1) (y.l,us g m m,row,(row.length:Int),(0:Int),y,0,y.gs 1,op,out++[(x:Int)],q1)=some (.aS (y.l,us g m m,y,0,y.gs 1,d',out++[(x:Int)],e')):=hf
   rw[hf',aC]
   exact hr
theorem YT{g:gV}{m:Nat}(hg:GG g m):∃out,KO g m out∧∀y:YC,lf y.l (Yc y) y.l g y 0 (y.gs 1) []=some (y,0,y.gs 1,out):=by
 have hB:=hB
 have hsm:=hg.small
 obtain⟨c',e',hL,h3⟩:=YR hg (us g m m) (m+1) 0 (List.replicate m (0:Int)) [] (by omega) (by omega) ⟨gn ..,fun h hh=>by omega,List.nodup_nil,fun x=>by simp⟩
 obtain⟨out,hO,h9⟩:=YS hg dA e' [] c' (Jt (by simp;omega)) ⟨hL.len,fun h hh=>by rw[hL.num h hh,JQ],by rw[cw];exact hL.oK,fun x hx=>by
  rw[cw] at hx
  obtain⟨h,h1,h2,_⟩:=(hL.mem x).1 hx
  omega,fun h hh=>by
  rw[cw,hL.mem,JQ]
  constructor
  ·rintro⟨h',h1,h2,h3⟩
   have:h'=h:=by omega
   subst this;exact h3
  ·intro h1;exact⟨h,hh,rfl,h1⟩,fun i hi=>by simp at hi⟩
 refine⟨out,hO,fun y=>?_⟩
 have h3:=h3 y []
 have h3':iv y.l (Yc y) (m+1) (y.l,g,us g m m,(m:Int),(0:Int),y,0,y.gs 1,[],List.replicate m (0:Int),[])=some (.aS (y.l,us g m m,y,0,y.gs 1,[],c',e')):=h3
 unfold lf
 rw[ME hg,aD,hg.many,dK m,aA (fQ _),aA (by omega),dV]
 erw[h3']
 rw[aC]
 dsimp only
 rw[h9 y,aC]
theorem HE{g:gV}{m:Nat}(hg:GG g m):∃out,KO g m out∧pZ g=some out:=by
 obtain⟨out,hO,h⟩:=YT hg
 refine⟨out,hO,?_⟩
 unfold pZ yn
 rw[oz (r:=.aS out)]
 ·rfl
 ·intro y
  erw[h y]
  simp only[aD,gw,cC]
abbrev NM:=ZS
def kk(M:NM)(h:Int):Zd:=(bA (aO (.int .i64) (.map (.int .i64) .bool) h M)).map (·.1)
theorem mZ{α:Type}{k z:Int}{v:α}{es:List (Int×α)}:z∈(bK (.int .i64) k v es).map (·.1)↔z=k∨z∈es.map (·.1):=by
 have h1:=il (kt:=.int .i64) rfl (k:=z) (es:=bK (.int .i64) k v es)
 have h2:=il (kt:=.int .i64) rfl (k:=z) (es:=es)
 by_cases h:z=k
 ·subst h
  exact⟨fun _=>Or.inl rfl,fun _=>h1.1 (sF (kt:=.int .i64) rfl _ _ _)⟩
 ·rw[qJ (kt:=.int .i64) rfl h] at h1
  exact⟨fun hz=>Or.inr (h2.1 (h1.2 hz)),fun hz=>h1.1 (h2.2 (hz.resolve_left h))⟩
theorem uL{M:NM}{h:Int}{L:Zr}:kk (bK (.int .i64) h (some L) M) h=L.map (·.1):=by
 unfold kk
 rw[dj (kt:=.int .i64) (vt:=.map (.int .i64) .bool) rfl]
 rfl
theorem uM{M:NM}{h z:Int}{L:Ze}(hz:z≠h):kk (bK (.int .i64) h L M) z=kk M z:=by
 unfold kk
 rw[cT (kt:=.int .i64) (vt:=.map (.int .i64) .bool) rfl hz]
structure RG(m:Nat)(M:NM):Prop where
 oK:∀h,(kk M h).Nodup
 A6:∀h x,x∈kk M h→0≤x∧x<(m:Int)
 VO:(M.map (·.1)).Nodup
 Rr:∀x∈M.map (·.1),0≤x∧x<(m:Int)
theorem xe(m x:Int)(M:NM):uG m x M=some (decide (0≤x∧x<m),M):=by
 unfold uG
 by_cases h:0≤x
 ·rw[cq h,aD]
  simp[h]
 ·rw[aB (by simp[h]),aD]
  simp[h]
theorem RG.put{m:Nat}{M:NM}(hM:RG m M){h x:Int}(hh:h∈M.map (·.1))(hx:0≤x∧x<(m:Int)):
 RG m (bK (.int .i64) h (some (bK (.int .i64) x true (bA (aO (.int .i64) (.map (.int .i64) .bool) h M)))) M):=by
 refine⟨fun z=>?_,fun z y hy=>?_,fJ (kt:=.int .i64) rfl hM.VO,fun z hz=>?_⟩
 ·by_cases hz:z=h
  ·subst hz
   rw[uL]
   exact fJ (kt:=.int .i64) rfl (hM.oK z)
  ·rw[uM hz];exact hM.oK z
 ·by_cases hz:z=h
  ·subst hz
   rw[uL,mZ] at hy
   rcases hy with rfl|hy
   ·exact hx
   ·exact hM.A6 z y hy
  ·rw[uM hz] at hy;exact hM.A6 z y hy
 ·rw[mZ] at hz
  rcases hz with rfl|hz
  ·exact hM.Rr _ hh
  ·exact hM.Rr z hz
theorem MF{M:NM}{h x z y:Int}:y∈kk (bK (.int .i64) h (some (bK (.int .i64) x true (bA (aO (.int .i64) (.map (.int .i64) .bool) h M)))) M) z↔(z=h∧y=x)∨y∈kk M z:=by
 by_cases hz:z=h
 ·subst hz
  rw[uL,mZ]
  exact⟨fun hy=>hy.imp (fun e=>⟨rfl,e⟩) id,fun hy=>hy.imp (·.2) id⟩
 ·rw[uM hz]
  exact⟨Or.inr,fun hy=>hy.resolve_left fun e=>hz e.1⟩
abbrev MG:Int×gV:=((140:Int),((0:Int),((none:Option NM),())))
theorem VP{m:Nat}(hsm:m≤1000000)(i:Zl)(j k:Int)(fr:ZB)(h:eU)(hfr:fr.length≤aF):∀(n c:Nat)(M:NM),fr.length -c<n→c≤fr.length→RG m M→h.2.1∈M.map (·.1)→(∀z(hz:z<fr.length),z<c→fr[z].2.2.1∈kk M h.2.1)→
 (∃M',sK n (i,j,k,fr,(fr.length:Int),(c:Int),(m:Int),h,M)=some (.aS (i,j,k,(m:Int),M'))∧RG m M'∧(∀z y,y∈kk M z→y∈kk M' z)∧∀f∈fr,f.2.2.1∈kk M' h.2.1)∨
  sK n (i,j,k,fr,(fr.length:Int),(c:Int),(m:Int),h,M)=some (.ret (.ret MG)):=by
 intro n
 have hB:=hB
 induction n with
 |zero=>intro c M h;omega
 |
  succ n ih=>
  intro c M hn hc hM hh hd
  unfold sK at ih ⊢
  rw[aK]
  generalize aL _ n=rec at ih ⊢
  dsimp only
  by_cases hcl:c<fr.length
  ·rw[cq (by omega),dK c,aA (show(c:Int)<(fr.length:Int) by omega),cJ (t:=bG) hcl,xe,aD]
   dsimp only
   by_cases hx:0≤fr[c].2.2.1∧fr[c].2.2.1<(m:Int)
   ·rw[aB (by simp[hx]),aA (il (kt:=.int .i64) rfl |>.2 hh),aA (l9 (kt:=.int .i64) rfl _)]
    have hlen:(bA (aO (.int .i64) (.map (.int .i64) .bool) h.2.1 M)).length≤m:=by
     have:=jZ m (kk M h.2.1) (hM.oK _) (hM.A6 _)
     unfold kk at this
     rw[gv] at this
     exact this
    rw[aA (by omega),bU (by omega)]
    rcases ih (c+1) _ (by omega) (by omega) (hM.put hh hx) (by rw[mZ];exact Or.inl rfl) (fun z hz hzc=>by
     rw[MF]
     by_cases e:z=c
     ·subst e;exact Or.inl ⟨rfl,rfl⟩
     ·exact Or.inr (hd z hz (by omega))) with⟨M',e,h1,h2,h3⟩|e
    ·exact Or.inl ⟨M',e,h1,fun z y hy=>h2 z y (MF.2 (Or.inr hy)),h3⟩
    ·exact Or.inr e
   ·rw[aA (by simp[hx])]
    exact Or.inr rfl
  ·rw[eF (by omega)]
   refine Or.inl ⟨M,rfl,hM,fun _ _ h=>h,fun f hf=>?_⟩
   obtain⟨z,hz,rfl⟩:=iG hf
   exact hd z hz (by omega)
theorem YU{m:Nat}(hsm:m≤1000000)(rs:Zl)(hrs:rs.length≤aF)(hfr:∀r∈rs,r.2.2.1.length≤aF):∀(n c:Nat)(M:NM),rs.length -c<n→c≤rs.length→RG m M→(∀z(hz:z<rs.length),z<c→∀f∈rs[z].2.2.1,f.2.2.1∈kk M rs[z].2.1)→
 (∃M',wo n (rs,(rs.length:Int),(c:Int),(m:Int),M)=some (.aS ((m:Int),M'))∧RG m M'∧∀r∈rs,∀f∈r.2.2.1,f.2.2.1∈kk M' r.2.1)∨
  wo n (rs,(rs.length:Int),(c:Int),(m:Int),M)=some (.ret MG):=by
 intro n
 have hB:=hB
 induction n with
 |zero=>intro c M h;omega
 |
  succ n ih=>
  intro c M hn hc hM hd
  unfold wo at ih ⊢
  rw[aK]
  generalize aL _ n=rec at ih ⊢
  dsimp only
  by_cases hcl:c<rs.length
  ·rw[cq (by omega),dK c,aA (show(c:Int)<(rs.length:Int) by omega),cJ (t:=bX) hcl,xe,aD]
   dsimp only
   by_cases hx:0≤rs[c].2.1∧rs[c].2.1<(m:Int)
   ·rw[aB (by simp[hx])]
    have hput:∃M1,RG m M1∧rs[c].2.1∈M1.map (·.1)∧(∀z y,y∈kk M z→y∈kk M1 z)∧
     (if(!(ep (.int .i64) rs[c].2.1 M))=true then(if ep (.int .i64) rs[c].2.1 M=false then(if bM (.int .i64) rs[c].2.1 rs[c].2.1=true then(if List.length M+1≤aF then(some (dN.aS (rs,(rs.length:Int),(c:Int),(m:Int),rs[c],bK (.int .i64) rs[c].2.1 (some ([]:Zr)) (bK (.int .i64) rs[c].2.1 (Ty.aH (.map (.int .i64) .bool)) M)))) else none) else none) else none) else(some (.aS (rs,(rs.length:Int),(c:Int),(m:Int),rs[c],M))):Option (dN (List eU×Int×Int×Int×eU×NM) (dN (List eU×Int×Int×Int×NM) (dN (Int×NM) (Int×gV)))))=some (.aS (rs,(rs.length:Int),(c:Int),(m:Int),rs[c],M1)):=by
     cases hm:ep (.int .i64) rs[c].2.1 M with
     |true=>exact⟨M,hM,il (kt:=.int .i64) rfl |>.1 hm,fun _ _ h=>h,by rw[aB (by simp)]⟩
     |
      false=>
      have hno:rs[c].2.1∉M.map (·.1):=fun h=>by
       have:=il (kt:=.int .i64) rfl |>.2 h
       rw[hm] at this;cases this
      have hk0:kk M rs[c].2.1= []:=by
       unfold kk
       rw[Ei (kt:=.int .i64) hm]
       rfl
      have hlen:M.length≤m:=by
       have:=jZ m (M.map (·.1)) hM.VO hM.Rr
       rw[gv] at this
       exact this
      refine⟨_,⟨fun z=>?_,fun z y hy=>?_,fJ (kt:=.int .i64) rfl (fJ (kt:=.int .i64) rfl hM.VO),fun z hz=>?_⟩,mZ.2 (Or.inl rfl),fun z y hy=>?_,by rw[aA (by simp),aA rfl,aA (l9 (kt:=.int .i64) rfl _),aA (by omega)]⟩
      ·by_cases hz:z=rs[c].2.1
       ·subst hz;rw[uL];exact List.nodup_nil
       ·rw[uM hz,uM hz];exact hM.oK z
      ·by_cases hz:z=rs[c].2.1
       ·subst hz;rw[uL] at hy;cases hy
       ·rw[uM hz,uM hz] at hy;exact hM.A6 z y hy
      ·rw[mZ,mZ] at hz
       rcases hz with rfl|rfl|hz
       ·exact hx
       ·exact hx
       ·exact hM.Rr z hz
      ·by_cases hz:z=rs[c].2.1
       ·subst hz;rw[hk0] at hy;cases hy
       ·rw[uM hz,uM hz];exact hy
    obtain⟨M1,hM1,hh1,hk1,e1⟩:=hput
    rw[e1,aC]
    dsimp only
    rcases VP hsm rs (rs.length:Int) (c:Int) rs[c].2.2.1 rs[c] (hfr _ (lD hcl)) (rs[c].2.2.1.length+1) 0 M1 (by omega) (by omega) hM1 hh1 (fun z hz h=>by omega) with⟨M',e,h1,h2,h3⟩|e
    ·have e':sK (Int.toNat (List.length rs[c].2.2.1:Int)+1) (rs,(rs.length:Int),(c:Int),rs[c].2.2.1,(List.length rs[c].2.2.1:Int),(0:Int),(m:Int),rs[c],M1)=some (.aS (rs,(rs.length:Int),(c:Int),(m:Int),M')):=e
     rw[e',aC]
     dsimp only
     rw[bU (by omega)]
     exact ih (c+1) M' (by omega) (by omega) h1 fun z hz hzc f hf=>by
      by_cases ec:z=c
      ·subst ec;exact h3 f hf
      ·exact h2 _ _ (hk1 _ _ (hd z hz (by omega) f hf))
    ·have e':sK (Int.toNat (List.length rs[c].2.2.1:Int)+1) (rs,(rs.length:Int),(c:Int),rs[c].2.2.1,(List.length rs[c].2.2.1:Int),(0:Int),(m:Int),rs[c],M1)=some (.ret (.ret MG)):=e
     rw[e',jj]
     exact Or.inr rfl
   ·rw[aA (by simp[hx])]
    exact Or.inr rfl
  ·rw[eF (by omega)]
   refine Or.inl ⟨M,rfl,hM,fun r hr=>?_⟩
   obtain⟨z,hz,rfl⟩:=iG hr
   exact hd z hz (by omega)
structure SB(s:bF):Prop where
 dh:s.2.2.1.length≤1000000
 rules:s.2.2.2.1.length≤aF
 YV:∀r∈s.2.2.2.1,r.2.2.1.length≤aF
theorem Rt{s:bF}(hs:SB s):(∃g,YD s=some ((0:Int),g)∧GG g s.2.2.1.length∧∀r∈s.2.2.2.1,∀f∈r.2.2.1,f.2.2.1∈ks g r.2.1)∨YD s=some MG:=by
 have key:=YU hs.dh s.2.2.2.1 hs.rules hs.YV (s.2.2.2.1.length+1) 0 [] (by omega) (by omega) ⟨fun h=>List.nodup_nil,fun h x hx=>(by cases hx),List.nodup_nil,fun x hx=>(by cases hx)⟩ (fun z hz h=>by omega)
 unfold YD
 rcases key with⟨M',e,h1,h2⟩|e
 ·have e':wo (Int.toNat (List.length s.2.2.2.1:Int)+1) (s.2.2.2.1,(List.length s.2.2.2.1:Int),(0:Int),(List.length s.2.2.1:Int),([]:NM))=some (.aS ((s.2.2.1.length:Int),M')):=e
  rw[e',aC]
  exact Or.inl ⟨_,rfl,⟨rfl,hs.dh,fun h=>h1.oK h,fun h x hx=>h1.A6 h x hx⟩,h2⟩
 ·have e':wo (Int.toNat (List.length s.2.2.2.1:Int)+1) (s.2.2.2.1,(List.length s.2.2.2.1:Int),(0:Int),(List.length s.2.2.1:Int),([]:NM))=some (.ret MG):=e
  rw[e',jj]
  exact Or.inr rfl
structure wu(s:bF)(l:Zd):Prop where
 oK:l.Nodup
 all:∀x,x∈l↔0≤x∧x<(s.2.2.1.length:Int)
 pre:∀r∈s.2.2.2.1,∀f∈r.2.2.1,l.idxOf f.2.2.1<l.idxOf r.2.1
theorem KO.all{g:gV}{m:Nat}{out:Zd}(h:KO g m out)(hl:m≤out.length)(x:Int):x∈out↔0≤x∧x<(m:Int):=by
 refine⟨h.A6 x,fun hx=>?_⟩
 by_cases hm:x∈out
 ·exact hm
 ·have:=jZ m (x::out) (List.nodup_cons.2 ⟨hm,h.oK⟩) fun y hy=>by
   rcases List.mem_cons.1 hy with rfl|hy
   ·exact hx
   ·exact h.A6 y hy
  rw[da] at this
  omega
theorem EH{s:bF}(hs:SB s):∃l ok e,Xb s=some (l,ok,e)∧(e=0→ok=true→(∀r∈s.2.2.2.1,0≤r.2.1∧r.2.1<(s.2.2.1.length:Int))→wu s l):=by
 unfold Xb
 rcases Rt hs with⟨g,e,hg,hn⟩|e
 ·rw[e,aD]
  dsimp only
  rw[aB (by decide)]
  obtain⟨out,hO,ho⟩:=HE hg
  have ho:=(Fx g).trans ho
  have e2:Hw g=some g:=rfl
  rw[e2,aD,ho,aD,hg.many]
  by_cases hl:out.length<s.2.2.1.length
  ·rw[cq (by omega)]
   exact⟨_,_,_,rfl,fun _ h=>(by cases h)⟩
  ·rw[eF (by omega)]
   refine⟨_,_,_,rfl,fun _ _ hr=>⟨hO.oK,hO.all (by omega),fun r hrm f hf=>?_⟩⟩
   have hin:r.2.1∈out:=(hO.all (by omega) _).2 (hr r hrm)
   have hi:=List.idxOf_lt_length_of_mem hin
   have h1:=hO.pre _ hi f.2.2.1 (by rw[List.getElem_idxOf];exact hn r hrm f hf)
   obtain⟨j,hj,e3⟩:=iG h1
   rw[gE] at hj
   rw[List.getElem_take] at e3
   rw[←e3,hO.oK.idxOf_getElem]
   omega
 ·rw[e,aD]
  dsimp only
  rw[aA (by decide)]
  exact⟨_,_,_,rfl,fun h=>(by cases h)⟩
theorem gK{A R:Type}{x:Option A}{f:A→Option R}(hx:∃a,x=some a)(hf:∀a,∃r,f a=some r):∃r,Option.bind x f=some r:=by
 obtain⟨a,rfl⟩:=hx
 exact hf a
theorem yV(x y:Zs)(hl:x.length≤aF):∃r,UW x y=some r:=PG .str (fun a b=>decide (a=b)) x y fun _=>hl
theorem Lq(l:Zs)(hl:l.length≤aF):∃r,f79 l=some r:=by
 have hB:=hB
 have key:∀(n a:Nat)(d:List (Zf×Bool)),l.length -a<n→a≤l.length→d.length≤a→∃r,aG (U:=Unit) (Ho n (l,(l.length:Int),(a:Int),d)) (fun _=>some true)=some r:=by
  intro n
  induction n with
  |zero=>intro a d h;omega
  |
   succ n ih=>
   intro a d hn ha hd
   unfold Ho at ih ⊢
   rw[aK]
   generalize aL _ n=rec at ih ⊢
   dsimp only
   by_cases h:a<l.length
   ·rw[cq (by omega),dK a,aA (show(a:Int)<(l.length:Int) by omega)]
    split
    ·exact⟨_,rfl⟩
    ·rw[aA (by omega),bU (by omega)]
     exact ih (a+1) _ (by omega) (by omega) (cW (dp (kt:=.str)) (by omega))
   ·rw[eF (by omega)]
    exact⟨_,rfl⟩
 exact key _ 0 [] (by omega) (by omega) (by simp)
theorem Lr(l:Zd)(hl:l.length≤aF):∃r,Vr l=some r∧(r=true→l.Nodup):=by
 have hB:=hB
 have key:∀(n a:Nat)(d:Zr),l.length -a<n→a≤l.length→d.length≤a→(∀x∈l.take a,aO (.int .i64) .bool x d=true)→(l.take a).Nodup→∃r,aG (U:=Unit) (Ck n (l,(l.length:Int),(a:Int),d)) (fun _=>some true)=some r∧(r=true→l.Nodup):=by
  intro n
  induction n with
  |zero=>intro a d h;omega
  |
   succ n ih=>
   intro a d hn ha hd h1 h2
   unfold Ck at ih ⊢
   rw[aK]
   generalize aL _ n=rec at ih ⊢
   dsimp only
   by_cases h:a<l.length
   ·rw[cq (by omega),dK a,aA (show(a:Int)<(l.length:Int) by omega),cJ (t:=.int .i64) h]
    by_cases hs:aO (.int .i64) .bool l[a] d=true
    ·rw[aA hs];exact⟨false,rfl,fun h=>(by cases h)⟩
    ·rw[aB hs,aA (by omega),bU (by omega)]
     have ht:l.take (a+1)=l.take a++[l[a]]:=(List.take_append_getElem h).symm
     refine ih (a+1) _ (by omega) (by omega) (cW (dp (kt:=.int .i64)) (by omega)) (fun x hx=>?_) ?_
     ·rw[ht,j5,lC] at hx
      by_cases e:x=l[a]
      ·rw[e];exact dj (kt:=.int .i64) (vt:=.bool) rfl _ _ _
      ·rw[cT (kt:=.int .i64) (vt:=.bool) rfl e];exact h1 x (hx.resolve_right e)
     ·rw[ht,List.nodup_append]
      refine⟨h2,List.nodup_cons.2 ⟨List.not_mem_nil,List.nodup_nil⟩,fun x hx y hy=>?_⟩
      rw[List.mem_singleton.1 hy]
      exact fun e=>hs (h1 _ (e▸hx))
   ·rw[eF (by omega)]
    have e:a=l.length:=by omega
    subst e
    rw[List.take_length] at h2
    exact⟨true,rfl,fun _=>h2⟩
 exact key _ 0 [] (by omega) (by omega) (by simp) (fun x hx=>(by cases hx)) List.nodup_nil
abbrev gz(t:jx):Zs:=t.2.2.2.2.2.1
theorem Bo(t:jx)(n:Int):∃r,PA t n=some r:=by
 unfold PA
 refine gK ?_ fun v=>⟨v,rfl⟩
 repeat' (first|exact⟨_,rfl⟩|split)
theorem Ls(t:jx)(n:Int):∃r,GF t n=some r:=by
 unfold GF
 refine gK ?_ fun v=>⟨v,rfl⟩
 repeat' (first|exact⟨_,rfl⟩|split)
theorem Lt(t:jx)(n:Int):∃r,GD t n=some r:=by
 unfold GD
 refine gK ?_ fun v=>⟨v,rfl⟩
 repeat' (first|exact⟨_,rfl⟩|split)
theorem Lu(t:jx)(n:Int)(h:(gz t).length≤aF):∃r,GC t n=some r:=by
 unfold GC
 obtain⟨q,hq⟩:=Lq _ h
 refine gK ?_ fun v=>⟨v,rfl⟩
 rw[hq]
 repeat' (first|exact⟨_,rfl⟩|split)
theorem lJ(c:kU)(t:jx)(h:(gz t).length≤aF):∃r,uB c t=some r:=by
 unfold uB
 by_cases h1:t.1<1
 ·rw[cq h1];exact⟨_,rfl⟩
 ·by_cases h2:(4:Int)<t.1
  ·rw[aB (by simpa using h1),bR h2];exact⟨_,rfl⟩
  ·rw[aB (by simpa using h1),cD h2,aD,aB (by decide),aC]
   dsimp only
   rw[aA (by omega),aA (by omega),aB (by omega)]
   by_cases e1:t.1=1
   ·rw[aA e1];exact gK (Bo _ _) fun v=>⟨v,rfl⟩
   ·rw[aB e1]
    by_cases e2:t.1=2
    ·rw[aA e2];exact gK (Ls _ _) fun v=>⟨v,rfl⟩
    ·rw[aB e2]
     by_cases e3:t.1=3
     ·rw[aA e3];exact gK (Lt _ _) fun v=>⟨v,rfl⟩
     ·rw[aB e3,aA (by omega)];exact gK (Lu _ _ h) fun v=>⟨v,rfl⟩
theorem lK(c:kU)(u:gQ):∃r,Uw c u=some r:=by
 unfold Uw
 refine gK ?_ fun v=>⟨v,rfl⟩
 by_cases h1:0≤u.2.2.2.1
 ·by_cases h2:u.2.2.2.1<(c.1.2.1.length:Int)
  ·rw[aA h1,aA h2]
   repeat' (first|exact⟨_,rfl⟩|split)
  ·rw[aB (show¬decide (u.2.2.2.1<(List.length c.1.2.1:Int))=true by simpa using h2)]
   repeat' (first|exact⟨_,rfl⟩|split)
 ·rw[aB (show¬decide ((0:Int)≤u.2.2.2.1)=true by simpa using h1)]
  repeat' (first|exact⟨_,rfl⟩|split)
def aP(s:bF)(a:Int):ZG:=(nth aU s.2.2.1 a).2.2.2.2.1
structure HF(s:bF)(a b:Int):Prop where
 a0:0≤a
 a1:a<(s.2.2.1.length:Int)
 b0:0≤b
 b1:b<((aP s a).length:Int)
theorem gG(c:kU)(a b:Int):(HF c.1 a b∧Qd c a b=some (true,(nth cS (aP c.1 a) b).2.1))∨(¬HF c.1 a b∧∃t,Qd c a b=some (false,t)):=by
 unfold Qd
 by_cases h1:a<0
 ·rw[cq h1]
  exact Or.inr ⟨fun h=>by have:=h.a0;omega,_,rfl⟩
 ·rw[aB (by simpa using h1)]
  by_cases h2:(c.1.2.2.1.length:Int)≤a
  ·rw[cq h2]
   exact Or.inr ⟨fun h=>by have:=h.a1;omega,_,rfl⟩
  ·rw[aB (by simpa using h2)]
   by_cases h3:b<0
   ·rw[cq h3]
    exact Or.inr ⟨fun h=>by have:=h.b0;omega,_,rfl⟩
   ·rw[aB (by simpa using h3),aA (show 0≤a by omega),aA (show a<(c.1.2.2.1.length:Int) by omega)]
    by_cases h4:((aP c.1 a).length:Int)≤b
    ·have d4:decide (((aP c.1 a).length:Int)≤b)=true:=bR h4
     unfold aP at d4
     rw[d4,aD,aA rfl]
     exact Or.inr ⟨fun h=>by have:=h.b1;omega,_,rfl⟩
    ·have d4:decide (((aP c.1 a).length:Int)≤b)=false:=cD h4
     have h5:b<((aP c.1 a).length:Int):=by omega
     have h6:=h5
     unfold aP at d4 h6
     rw[d4,aD,aB (by decide),aC]
     dsimp only
     rw[aA (show 0≤a by omega),aA (show a<(c.1.2.2.1.length:Int) by omega),aA (show 0≤b by omega),aA h6]
     exact Or.inl ⟨⟨by omega,by omega,by omega,h5⟩,rfl⟩
structure EI(c:iw)(t:gQ)(n:Int):Prop where
 v0:0≤t.2.2.1
 v1:t.2.2.1<n
 f:HF c.1.1 (nth bG c.2.1.2.2.1 t.2.2.1).2.2.1 t.2.2.2.1
theorem rD(c:iw)(t:gQ){n:Int}(hn:n≤(c.2.1.2.2.1.length:Int)):
 (EI c t n∧Hq c t n=some (true,(nth cS (aP c.1.1 (nth bG c.2.1.2.2.1 t.2.2.1).2.2.1) t.2.2.2.1).2.1))∨(¬EI c t n∧∃y,Hq c t n=some (false,y)):=by
 unfold Hq
 by_cases h1:t.2.2.1<0
 ·rw[cq h1]
  exact Or.inr ⟨fun h=>by have:=h.v0;omega,_,rfl⟩
 ·rw[aB (by simpa using h1)]
  by_cases h2:n≤t.2.2.1
  ·rw[bR h2,aD,aA rfl]
   exact Or.inr ⟨fun h=>by have:=h.v1;omega,_,rfl⟩
  ·rw[cD h2,aD,aB (by decide),aC]
   dsimp only
   rw[aA (show 0≤t.2.2.1 by omega),aA (show t.2.2.1<(c.2.1.2.2.1.length:Int) by omega)]
   rcases gG c.1 (nth bG c.2.1.2.2.1 t.2.2.1).2.2.1 t.2.2.2.1 with⟨hi,e⟩|⟨hi,y,e⟩
   ·rw[e]
    exact Or.inl ⟨⟨by omega,by omega,hi⟩,rfl⟩
   ·rw[e]
    exact Or.inr ⟨fun h=>hi h.f,y,rfl⟩
theorem HG{t:jx}{n:Int}(h:PA t n=some true):-1≤t.2.2.2.2.1∧t.2.2.2.2.1<n:=by
 unfold PA at h
 by_cases h1:-1≤t.2.2.2.2.1
 ·by_cases h2:t.2.2.2.2.1<n
  ·exact⟨h1,h2⟩
  ·exfalso
   rw[aB (show¬decide (t.2.2.2.2.1<n)=true by simpa using h2)] at h
   repeat' (first|cases h;done|split at h)
 ·exfalso
  rw[aB (show¬decide ((-1:Int)≤t.2.2.2.2.1)=true by simpa using h1)] at h
  repeat' (first|cases h;done|split at h)
theorem mj{c:kU}{t:jx}(h:uB c t=some true)(h1:t.1=1):-1≤t.2.2.2.2.1∧t.2.2.2.2.1<(c.1.2.1.length:Int):=by
 unfold uB at h
 rw[aB (show¬decide (t.1<(1:Int))=true by rw[h1];decide),h1,aD,aB (by decide),aC] at h
 dsimp only at h
 rw[h1,aA (by decide),aA (by decide),aB (by decide),aA rfl] at h
 obtain⟨q,hq⟩:=Bo t (c.1.2.1.length:Int)
 rw[hq] at h
 cases h
 exact HG hq
def A7(c:iw)(t:gQ):jx:=(nth cS (aP c.1.1 (nth bG c.2.1.2.2.1 t.2.2.1).2.2.1) t.2.2.2.1).2.1
structure FO(c:iw)(j:Nat):Prop where
 s0:0≤(nth bG c.2.1.2.2.1 (j:Int)).2.2.1
 s1:(nth bG c.2.1.2.2.1 (j:Int)).2.2.1<(c.1.1.2.2.1.length:Int)
 of:(nth bG c.2.1.2.2.1 (j:Int)).2.2.2.1.2.2.1= -1∨EI c (nth bG c.2.1.2.2.1 (j:Int)).2.2.2.1 (j:Int)
 pk:(nth bG c.2.1.2.2.1 (j:Int)).2.2.2.1.2.2.1= -1∨(A7 c (nth bG c.2.1.2.2.1 (j:Int)).2.2.2.1).1=3
theorem VQ(
 c:iw) (hl:c.2.1.2.2.1.length≤aF):∀(n i:Nat),c.2.1.2.2.1.length -i<n→i≤c.2.1.2.2.1.length→(∀j<i,FO c j)→
 (aG (U:=Unit) (xX n (c.2.1.2.2.1,(c.2.1.2.2.1.length:Int),(i:Int),c)) (fun _=>some true)=some true∧∀j<c.2.1.2.2.1.length,FO c j)∨aG (U:=Unit) (xX n (c.2.1.2.2.1,(c.2.1.2.2.1.length:Int),(i:Int),c)) (fun _=>some true)=some false:=by
 intro n
 have hB:=hB
 induction n with
 |zero=>intro i h;omega
 |
  succ n ih=>
  intro i hn hi hd
  unfold xX at ih ⊢
  rw[aK]
  generalize aL _ n=rec at ih ⊢
  dsimp only
  by_cases h:i<c.2.1.2.2.1.length
  ·rw[cq (by
    omega),dK i,aA (show(i:Int)<(c.2.1.2.2.1.length:Int) by omega)]
   by_cases h1:(nth bG c.2.1.2.2.1 (i:Int)).2.2.1<0
   ·rw[cq h1];exact Or.inr rfl
   ·rw[aB (show¬decide ((nth bG c.2.1.2.2.1 (i:Int)).2.2.1<(0:Int))=true by simpa using h1)]
    by_cases h2:(c.1.1.2.2.1.length:Int)≤(nth bG c.2.1.2.2.1 (i:Int)).2.2.1
    ·rw[bR h2,aD,aA rfl];exact Or.inr rfl
    ·rw[cD h2,aD,aB (by decide),aC]
     dsimp only
     rw[bU (by omega)]
     by_cases h3:(nth bG c.2.1.2.2.1 (i:Int)).2.2.2.1.2.2.1= -1
     ·rw[cq h3]
      exact ih (i+1) (by omega) (by omega) fun j hj=>by
       by_cases e:j=i
       ·subst e;exact⟨Int.not_lt.1 h1,Int.not_le.1 h2,Or.inl h3,Or.inl h3⟩
       ·exact hd j (by omega)
     ·rw[aB (show¬decide ((nth bG c.2.1.2.2.1 (i:Int)).2.2.2.1.2.2.1=(-1:Int))=true by simpa using h3)]
      rcases rD c (nth bG c.2.1.2.2.1 (i:Int)).2.2.2.1 (n:=(i:Int)) (by omega) with⟨hit,e⟩|⟨_,y,e⟩
      ·rw[e,aD]
       dsimp only
       rw[aB (by decide),aD]
       by_cases h4:(A7 c (nth bG c.2.1.2.2.1 (i:Int)).2.2.2.1).1=3
       ·have h5:=h4
        unfold A7 at h5
        rw[aB (by simp[h5])]
        exact ih (i+1) (by omega) (by omega) fun j hj=>by
         by_cases e:j=i
         ·subst e;exact⟨Int.not_lt.1 h1,Int.not_le.1 h2,Or.inr hit,Or.inr h4⟩
         ·exact hd j (by omega)
       ·unfold A7 at h4
        rw[aA (by simpa using h4)]
        exact Or.inr rfl
      ·rw[e,aD]
       dsimp only
       rw[aA (by decide),aD,aA rfl]
       exact Or.inr rfl
  ·rw[eF (by omega)]
   exact Or.inl ⟨rfl,fun j hj=>hd j (by omega)⟩
theorem HH(c:iw)(hl:c.2.1.2.2.1.length≤aF):(MA c=some true∧1≤c.2.1.2.2.1.length∧c.2.1.2.2.1.length≤3∧∀j<c.2.1.2.2.1.length,FO c j)∨MA c=some false:=by
 unfold MA
 by_cases h1:(c.2.1.2.2.1.length:Int)<1
 ·rw[cq h1];exact Or.inr rfl
 ·rw[aB (show¬decide ((c.2.1.2.2.1.length:Int)<(1:Int))=true by simpa using h1)]
  by_cases h2:(3:Int)<(c.2.1.2.2.1.length:Int)
  ·rw[bR h2,aD,aA rfl];exact Or.inr rfl
  ·rw[cD h2,aD,aB (by decide),aC]
   rcases VQ c hl (c.2.1.2.2.1.length+1) 0 (by omega) (by omega) (fun j hj=>by omega) with⟨e,h⟩|e
   ·exact Or.inl ⟨e,by omega,by omega,h⟩
   ·exact Or.inr e
def UO(s:bF):Prop:=∀x∈s.2.2.1,∀f∈x.2.2.2.2.1,f.2.1.1=1→-1≤f.2.1.2.2.2.2.1∧f.2.1.2.2.2.2.1<(s.2.1.length:Int)
def NB(s:bF):Prop:=∀x∈s.2.2.1,x.2.2.2.2.1.length≤aF∧∀f∈x.2.2.2.2.1,(gz f.2.1).length≤aF
theorem HF.mem{s:bF}{a b:Int}(h:HF s a b):nth aU s.2.2.1 a∈s.2.2.1∧nth cS (aP s a) b∈(nth aU s.2.2.1 a).2.2.2.2.1:=
 ⟨bE h.a0 h.a1,bE (t:=cS) (l:=aP s a) h.b0 h.b1⟩
theorem yW(c:kU)(a b:jx)(hn:(gz a).length≤aF)(ha:a.1=1→-1≤a.2.2.2.2.1∧a.2.2.2.2.1<(c.1.2.1.length:Int))(hb:b.1=1→-1≤b.2.2.2.2.1∧b.2.2.2.2.1<(c.1.2.1.length:Int)):∃r,Qe c a b=some r:=by
 unfold Qe
 by_cases h1:a.1=b.1
 ·rw[aB (by simp[h1])]
  by_cases h4:a.1=4
  ·rw[cq h4]
   obtain⟨q,hq⟩:=yV (gz a) (gz b) hn
   unfold gz at hq
   rw[hq];exact⟨_,rfl⟩
  ·rw[aB (show¬decide (a.1=(4:Int))=true by simpa using h4)]
   by_cases e1:a.1=1
   ·obtain⟨ha1,ha2⟩:=ha e1
    obtain⟨hb1,hb2⟩:=hb (by omega)
    rw[aB (by simp[e1])]
    by_cases u1:a.2.2.2.2.1= -1
    ·rw[cq u1];exact⟨_,rfl⟩
    ·rw[aB (show¬decide (a.2.2.2.2.1=(-1:Int))=true by simpa using u1)]
     by_cases u2:b.2.2.2.2.1= -1
     ·rw[bR u2];exact⟨_,rfl⟩
     ·rw[cD u2,aD,aB (by decide),aC]
      dsimp only
      rw[aA (by omega),aA ha2,aA (by omega),aA hb2]
      exact⟨_,rfl⟩
   ·rw[aA (by simp[e1])];exact⟨_,rfl⟩
 ·rw[aA (by simp[h1])];exact⟨_,rfl⟩
def ml(c:iw)(t:gQ):Prop:=EI c t (c.2.1.2.2.1.length:Int)∨t.2.2.1= -1
def SV(c:iw)(y:jx)(t:gQ):Prop:=(t.2.2.1= -1∧y.2.1≤t.2.2.2.2.1∧t.2.2.2.2.1≤y.2.2.1)∨(EI c t (c.2.1.2.2.1.length:Int)∧y.2.1≤(A7 c t).2.1∧(A7 c t).2.2.1≤y.2.2.1)
theorem Ux{P:Prop}{x:Zm}(h:∃z,x=some z∧(z=true→P)):∃r,(Option.bind x fun v=>some v)=some r∧(r=true→P):=by
 obtain⟨z,rfl,h⟩:=h
 exact⟨z,rfl,h⟩
def GT(s:bF)(y:jx):Prop:=(gz y).length≤aF∧(y.1=1→-1≤y.2.2.2.2.1∧y.2.2.2.2.1<(s.2.1.length:Int))
theorem EI.gt{c:iw}{t:gQ}{n:Int}(h:EI c t n)(hN:NB c.1.1)(hU:UO c.1.1):GT c.1.1 (A7 c t):=by
 obtain⟨h1,h2⟩:=h.f.mem
 exact⟨(hN _ h1).2 _ h2,hU _ h1 _ h2⟩
theorem xf(t:gQ):∃r,MB t=some r∧(r=true→t.2.2.1= -1):=by
 unfold MB
 by_cases h:t.2.2.1= -1
 ·obtain⟨r,hr⟩:∃r,(Option.bind (α:=Bool) (if(decide (t.2.2.1=(-1:Int)))=true then(if(decide ((0:Int)≤t.2.2.2.2.1))=true then(some (decide (t.2.2.2.2.1≤(1048576:Int)))) else(some false)) else(some false)) fun v1=>some v1)=some r:=by
   refine gK ?_ fun v=>⟨v,rfl⟩
   repeat' (first|exact⟨_,rfl⟩|split)
  exact⟨r,hr,fun _=>h⟩
 ·rw[aB (show¬decide (t.2.2.1=(-1:Int))=true by simpa using h)]
  exact⟨false,rfl,fun h=>(by cases h)⟩
theorem MH(c:iw)(y:jx)(t:gQ)(hN:NB c.1.1):∃r,Qg c y t=some r∧(r=true→ml c t∧SV c y t):=by
 unfold Qg
 obtain⟨b,hb,hbm⟩:=xf t
 rw[hb,aD]
 cases b with
 |
  true=>
  rw[aA rfl]
  refine Ux ?_
  by_cases h1:y.2.1≤t.2.2.2.2.1
  ·rw[cq h1]
   exact⟨_,rfl,fun h=>⟨Or.inr (hbm rfl),Or.inl ⟨hbm rfl,h1,bY h⟩⟩⟩
  ·rw[aB (fun h=>h1 (bY h))]
   exact⟨false,rfl,fun h=>(by cases h)⟩
 |
  false=>
  rw[aB (by decide)]
  rcases rD c t (n:=(c.2.1.2.2.1.length:Int)) (fQ _) with⟨hi,e⟩|⟨_,z,e⟩
  ·rw[e,aD]
   dsimp only
   have h1:=hi.f.mem
   obtain⟨q,hq⟩:=yV (gz (A7 c t)) (gz y) ((hN _ h1.1).2 _ h1.2)
   unfold gz A7 at hq
   refine Ux ?_
   rw[aA rfl]
   simp only[hq,aD]
   by_cases g1:y.2.1≤(A7 c t).2.1
   ·by_cases g2:(A7 c t).2.2.1≤y.2.2.1
    ·have key:∀x:Zm,(∃r,x=some r)→∃r,x=some r∧(r=true→ml c t∧SV c y t):=fun x ⟨r,hr⟩=>⟨r,hr,fun _=>⟨Or.inl hi,Or.inr ⟨hi,g1,g2⟩⟩⟩
     apply key
     repeat' (first|exact⟨_,rfl⟩|split)
    ·unfold A7 at g2
     simp only[cD g2]
     repeat' (first|exact⟨false,rfl,fun h=>(by cases h)⟩|split)
   ·unfold A7 at g1
    simp only[cD g1]
    repeat' (first|exact⟨false,rfl,fun h=>(by cases h)⟩|split)
  ·rw[e,aD]
   exact⟨false,rfl,fun h=>(by cases h)⟩
theorem VU(c:iw)(a:zT)(hN:NB c.1.1)(hU:UO c.1.1)(e:Zw)(he:e.length≤1000):∀(n i:Nat)(g:List jx),e.length -i<n→i≤e.length→g.length≤i→(∀y∈g,GT c.1.1 y)→(∀j(hj:j<e.length),j<i→ml c e[j])→
 (∃g',sH n ((e.length:Int),(i:Int),c,a,e,g)=some (.aS (c,a,g'))∧g'.length≤e.length∧(∀y∈g',GT c.1.1 y)∧∀t∈e,ml c t)∨sH n ((e.length:Int),(i:Int),c,a,e,g)=some (.ret false):=by
 intro n
 have hB:=hB
 induction n with
 |zero=>intro i g h;omega
 |
  succ n ih=>
  intro i g hn hi hgl hg hd
  unfold sH at ih ⊢
  rw[aK]
  generalize aL _ n=rec at ih ⊢
  dsimp only
  by_cases h:i<e.length
  ·rw[cq (by omega),dK i,aA (show(i:Int)<(e.length:Int) by omega),cJ (t:=bB) h,bU (by omega)]
   rcases rD c e[i] (n:=(c.2.1.2.2.1.length:Int)) (fQ _) with⟨hit,e1⟩|⟨_,y,e1⟩
   ·rw[e1,aD]
    dsimp only
    rw[aB (by decide),aD,aB (by decide),aA rfl,aA (show(g.length+List.length [_])*72≤aF by rw[bD];omega)]
    exact ih (i+1) _ (by omega) (by omega) (by rw[cz,bD];omega) (fun z hz=>by
     rcases List.mem_append.1 hz with hz|hz
     ·exact hg z hz
     ·rw[lC] at hz
      subst hz
      exact hit.gt hN hU) fun j hj hji=>by
     by_cases ej:j=i
     ·subst ej;exact Or.inl hit
     ·exact hd j hj (by omega)
   ·rw[e1,aD]
    dsimp only
    obtain⟨b,hb,hbm⟩:=xf e[i]
    rw[aA (by decide),hb,aD,aD]
    cases b with
    |false=>rw[aA (by decide)];exact Or.inr rfl
    |
     true=>
     rw[aB (by decide),aB (by decide)]
     exact ih (i+1) g (by omega) (by omega) (by omega) hg fun j hj hji=>by
      by_cases ej:j=i
      ·subst ej;exact Or.inr (hbm rfl)
      ·exact hd j hj (by omega)
  ·rw[eF (by omega)]
   refine Or.inl ⟨g,rfl,by omega,hg,fun t ht=>?_⟩
   obtain⟨j,hj,rfl⟩:=iG ht
   exact hd j hj (by omega)
theorem Rv(a:zT)(g:List jx)(hg:g.length≤1000):∀(n i:Nat),g.length -i<n→i≤g.length→∃r,aG (U:=Unit) (rC n ((g.length:Int),(i:Int),a,g)) (fun _=>some true)=some r:=by
 intro n
 induction n with
 |zero=>intro i h;omega
 |
  succ n ih=>
  intro i hn hi
  unfold rC at ih ⊢
  rw[aK]
  generalize aL _ n=rec at ih ⊢
  dsimp only
  by_cases h:i<g.length
  ·rw[cq (by omega),dK i,aA (show(i:Int)<(g.length:Int) by omega),bU (by omega)]
   have key:∀v:Bool,∃r,aG (U:=Unit) (Option.bind (α:=Bool) (if(decide (a.1=(2:Int)))=true then(some (!v)) else(if(decide (a.1=(3:Int)))=true then(some (!v)) else(some false))) fun v16=>if v16=true then(cN (some false)) else(rec ((g.length:Int),((i+1:Nat):Int),a,g))) (fun _=>some true)=some r:=by
    intro v
    have h2:∀w:Bool,∃r,aG (U:=Unit) (if w=true then(cN (some false)) else(rec ((g.length:Int),((i+1:Nat):Int),a,g))) (fun _=>some true)=some r:=fun w=>by
     cases w with
     |true=>exact⟨_,rfl⟩
     |false=>exact ih (i+1) (by omega) (by omega)
    split
    ·exact h2 (!v)
    ·split
     ·exact h2 (!v)
     ·exact h2 false
   split
   ·exact key _
   ·exact key _
  ·rw[eF (by omega)]
   exact⟨_,rfl⟩
theorem Lv(c:iw)(a:zT)(hN:NB c.1.1)(hU:UO c.1.1):∃r,Qf c a=some r∧(r=true→ml c a.2.1∧ml c a.2.2.1):=by
 have hB:=hB
 unfold Qf
 by_cases h1:a.1<1
 ·rw[cq h1];exact⟨_,rfl,fun h=>(by cases h)⟩
 ·rw[aB (show¬decide (a.1<(1:Int))=true by simpa using h1)]
  by_cases h2:(4:Int)<a.1
  ·rw[bR h2];exact⟨_,rfl,fun h=>(by cases h)⟩
  ·rw[cD h2,aD,aB (by decide),aC]
   dsimp only
   rcases VU c a hN hU [a.2.1,a.2.2.1] (by simp) 3 0 [] (by simp) (by simp) (by simp) (fun y hy=>(by cases hy)) (fun j hj h=>by omega) with⟨g,e,hgl,hg,ht⟩|e
   ·have e':sH (Int.toNat (List.length [a.2.1,a.2.2.1]:Int)+1) ((List.length [a.2.1,a.2.2.1]:Int),(0:Int),c,a,[a.2.1,a.2.2.1],([]:List jx))=some (.aS (c,a,g)):=e
    rw[e',aC]
    dsimp only
    have hgl2:g.length≤2:=hgl
    have key:∀x:Zm,(∃r,x=some r)→∃r,x=some r∧(r=true→ml c a.2.1∧ml c a.2.2.1):=fun x ⟨r,hr⟩=>⟨r,hr,fun _=>⟨ht _ (by simp),ht _ (by simp)⟩⟩
    apply key
    have h16:∃r,aG (U:=Unit) (rC (Int.toNat (List.length g:Int)+1) ((List.length g:Int),(0:Int),a,g)) (fun _=>some true)=some r:=Rv a g (by omega) _ 0 (by omega) (by omega)
    have h3:∀v:Bool,∃r,aG (U:=zT×List jx) (if v=true then(cN (some false)) else(some (.aS (a,g)))) (fun u=>match u with|⟨x,f⟩=>aG (U:=Unit) (rC (Int.toNat (List.length f:Int)+1) ((List.length f:Int),(0:Int),x,f)) fun _=>some true)=some r:=fun v=>by
     cases v with
     |true=>exact⟨_,rfl⟩
     |false=>exact h16
    by_cases g0:(g.length:Int)=0
    ·rw[cq g0]
     exact h3 true
    ·rw[aB (show¬decide ((g.length:Int)=(0:Int))=true by simpa using g0)]
     by_cases g2:(g.length:Int)=2
     ·rw[cq g2,aA (by omega),aA (by omega)]
      have m0:=hg _ (bE (t:=qS) (l:=g) (a:=0) (by omega) (by omega))
      have m1:=hg _ (bE (t:=qS) (l:=g) (a:=1) (by omega) (by omega))
      obtain⟨q,hq⟩:=yW c.1 (nth qS g (0:Int)) (nth qS g (1:Int)) m0.1 m0.2 m1.2
      rw[hq]
      exact h3 _
     ·rw[aB (show¬decide ((g.length:Int)=(2:Int))=true by simpa using g2)]
      exact h3 false
   ·have e':sH (Int.toNat (List.length [a.2.1,a.2.2.1]:Int)+1) ((List.length [a.2.1,a.2.2.1]:Int),(0:Int),c,a,[a.2.1,a.2.2.1],([]:List jx))=some (.ret false):=e
    rw[e',jj]
    exact⟨_,rfl,fun h=>(by cases h)⟩
structure RK(c:iw):Prop where
 n1:1≤c.2.1.2.2.1.length
 n3:c.2.1.2.2.1.length≤3
 fo:∀j<c.2.1.2.2.1.length,FO c j
 wh:∀a∈c.2.1.2.2.2.1,ml c a.2.1∧ml c a.2.2.1
 h0:0≤c.2.1.2.1
 h1:c.2.1.2.1<(c.1.1.2.2.1.length:Int)
 st:∀s∈c.2.1.2.2.2.2.1,HF c.1.1 c.2.1.2.1 s.2.1∧ml c s.2.2.1
 sv:∀s∈c.2.1.2.2.2.2.1,s.2.1≠0∧SV c (nth cS (aP c.1.1 c.2.1.2.1) s.2.1).2.1 s.2.2.1
 sd:(c.2.1.2.2.2.2.1.map (·.2.1)).Nodup
 sn:(c.2.1.2.2.2.2.1.length:Int)=aQ (((aP c.1.1 c.2.1.2.1).length:Int) -(1:Int))
theorem VV(c:iw)(hN:NB c.1.1)(hU:UO c.1.1)(l:ZE)(hl:l.length≤aF):∀(n i:Nat),l.length -i<n→i≤l.length→(∀j(hj:j<l.length),j<i→ml c l[j].2.1∧ml c l[j].2.2.1)→
 (wj n (l,(l.length:Int),(i:Int),c)=some (.aS c)∧∀a∈l,ml c a.2.1∧ml c a.2.2.1)∨wj n (l,(l.length:Int),(i:Int),c)=some (.ret false):=by
 intro n
 have hB:=hB
 induction n with
 |zero=>intro i h;omega
 |
  succ n ih=>
  intro i hn hi hd
  unfold wj at ih ⊢
  rw[aK]
  generalize aL _ n=rec at ih ⊢
  dsimp only
  by_cases h:i<l.length
  ·obtain⟨r,hr,hm⟩:=Lv c l[i] hN hU
   rw[cq (by omega),dK i,aA (show(i:Int)<(l.length:Int) by omega),cJ (t:=cH) h,bU (by omega),hr,aD]
   cases r with
   |false=>rw[aA (by decide)];exact Or.inr rfl
   |
    true=>
    rw[aB (by decide)]
    exact ih (i+1) (by omega) (by omega) fun j hj hji=>by
     by_cases ej:j=i
     ·subst ej;exact hm rfl
     ·exact hd j hj (by omega)
  ·rw[eF (by omega)]
   refine Or.inl ⟨rfl,fun t ht=>?_⟩
   obtain⟨j,hj,rfl⟩:=iG ht
   exact hd j hj (by omega)
theorem Rw(c:iw)(hN:NB c.1.1)(h0:Int)(l:ZF)(hl:l.length*80≤aF):∀(n i:Nat)(g:Zd),l.length -i<n→i≤l.length→g=(l.take i).map (·.2.1)→(∀j(hj:j<l.length),j<i→HF c.1.1 h0 l[j].2.1∧ml c l[j].2.2.1∧l[j].2.1≠0∧SV c (nth cS (aP c.1.1 h0) l[j].2.1).2.1 l[j].2.2.1)→
 (∃g',sI n (h0,l,(l.length:Int),(i:Int),c,g)=some (.aS g')∧g'=l.map (·.2.1)∧∀s∈l,HF c.1.1 h0 s.2.1∧ml c s.2.2.1∧s.2.1≠0∧SV c (nth cS (aP c.1.1 h0) s.2.1).2.1 s.2.2.1)∨sI n (h0,l,(l.length:Int),(i:Int),c,g)=some (.ret false):=by
 intro n
 have hB:=hB
 induction n with
 |zero=>intro i g h;omega
 |
  succ n ih=>
  intro i g hn hi hgl hd
  unfold sI at ih ⊢
  rw[aK]
  generalize aL _ n=rec at ih ⊢
  dsimp only
  by_cases h:i<l.length
  ·rw[cq (by omega),dK i,aA (show(i:Int)<(l.length:Int) by omega),cJ (t:=dF) h,bU (by omega)]
   rcases gG c.1 h0 l[i].2.1 with⟨hit,e1⟩|⟨_,y,e1⟩
   ·rw[e1,aD]
    dsimp only
    rw[aB (by decide)]
    by_cases hz:l[i].2.1=0
    ·rw[cq hz,aD,aA rfl];exact Or.inr rfl
    ·obtain⟨r,hr,hm⟩:=MH c (nth cS (aP c.1.1 h0) l[i].2.1).2.1 l[i].2.2.1 hN
     rw[aB (show¬decide (l[i].2.1=(0:Int))=true by simpa using hz),hr,aD,aD]
     cases r with
     |false=>rw[aA (by decide)];exact Or.inr rfl
     |
      true=>
      rw[aB (by decide),aA (show(g.length+List.length [_])*8≤aF by rw[bD,hgl,gv,gE];omega)]
      exact ih (i+1) _ (by omega) (by omega) (by rw[hgl,←List.take_append_getElem h,qN];rfl) fun j hj hji=>by
       by_cases ej:j=i
       ·subst ej;exact⟨hit,(hm rfl).1,hz,(hm rfl).2⟩
       ·exact hd j hj (by omega)
   ·rw[e1,aD]
    dsimp only
    rw[aA (by decide),aD,aA rfl];exact Or.inr rfl
  ·rw[eF (by omega)]
   refine Or.inl ⟨g,rfl,by rw[hgl,j6 (by omega)],fun t ht=>?_⟩
   obtain⟨j,hj,rfl⟩:=iG ht
   exact hd j hj (by omega)
theorem Lw(c:iw)(hN:NB c.1.1)(hU:UO c.1.1)(hf:c.2.1.2.2.1.length≤aF)(hw:c.2.1.2.2.2.1.length≤aF)(hs:c.2.1.2.2.2.2.1.length*80≤aF):∃r,Yy c=some r∧(r=true→RK c):=by
 have hB:=hB
 have no:∀x:Zm,x=some false→∃r,x=some r∧(r=true→RK c):=fun x hx=>⟨false,hx,fun h=>(by cases h)⟩
 unfold Yy
 rcases HH c hf with⟨e,h1,h3,hfo⟩|e
 ·rw[e,aD,aB (by decide)]
  by_cases h8:(8:Int)<(c.2.1.2.2.2.1.length:Int)
  ·rw[bR h8];exact no _ rfl
  ·rw[cD h8,aD,aB (by decide),aC]
   rcases VV c hN hU c.2.1.2.2.2.1 hw (c.2.1.2.2.2.1.length+1) 0 (by omega) (by omega) (fun j hj h=>by omega) with⟨e4,hwh⟩|e4
   ·have e4':wj (Int.toNat (List.length c.2.1.2.2.2.1:Int)+1) (c.2.1.2.2.2.1,(List.length c.2.1.2.2.2.1:Int),(0:Int),c)=some (.aS c):=e4
    rw[e4',aC]
    by_cases d1:c.2.1.2.1<0
    ·rw[cq d1];exact no _ rfl
    ·rw[aB (show¬decide (c.2.1.2.1<(0:Int))=true by simpa using d1)]
     by_cases d2:(c.1.1.2.2.1.length:Int)≤c.2.1.2.1
     ·rw[cq d2];exact no _ rfl
     ·rw[aB (show¬decide ((c.1.1.2.2.1.length:Int)≤c.2.1.2.1)=true by simpa using d2),aA (Int.not_lt.1 d1),aA (Int.not_le.1 d2),aD]
      by_cases hsn:(c.2.1.2.2.2.2.1.length:Int)=aQ (((aP c.1.1 c.2.1.2.1).length:Int) -(1:Int))
      rotate_left
      ·unfold aP at hsn
       rw[aA (by simpa using hsn)];exact no _ rfl
      ·have hsn':=hsn
       unfold aP at hsn'
       rw[aB (by simp[hsn']),aC]
       dsimp only
       rcases Rw c hN c.2.1.2.1 c.2.1.2.2.2.2.1 hs (c.2.1.2.2.2.2.1.length+1) 0 [] (by omega) (by omega) rfl (fun j hj h=>by omega) with⟨g,e14,hgl,hst⟩|e14
       ·have e14':sI (Int.toNat (List.length c.2.1.2.2.2.2.1:Int)+1) (c.2.1.2.1,c.2.1.2.2.2.2.1,(List.length c.2.1.2.2.2.2.1:Int),(0:Int),c,([]:Zd))=some (.aS g):=e14
        rw[e14',aC]
        obtain⟨q,hq,hqd⟩:=Lr g (by rw[hgl,gv];omega)
        rw[hq]
        exact⟨q,rfl,fun hq1=>⟨h1,h3,hfo,hwh,Int.not_lt.1 d1,Int.not_le.1 d2,fun s hs=>⟨(hst s hs).1,(hst s hs).2.1⟩,fun s hs=>(hst s hs).2.2,hgl▸hqd hq1,hsn⟩⟩
       ·have e14':sI (Int.toNat (List.length c.2.1.2.2.2.2.1:Int)+1) (c.2.1.2.1,c.2.1.2.2.2.2.1,(List.length c.2.1.2.2.2.2.1:Int),(0:Int),c,([]:Zd))=some (.ret false):=e14
        rw[e14',jj];exact no _ rfl
   ·have e4':wj (Int.toNat (List.length c.2.1.2.2.2.1:Int)+1) (c.2.1.2.2.2.1,(List.length c.2.1.2.2.2.1:Int),(0:Int),c)=some (.ret false):=e4
    rw[e4',jj];exact no _ rfl
 ·rw[e,aD,aA (by decide)];exact no _ rfl
theorem MJ(x:ZG)(a b:Int)(w:Ft)(c:kU):∀(n i:Nat),4 -i<n→i≤4→wi n (x,a,b,w,(i:Int),c)=some (.aS (x,a,b,c))∨wi n (x,a,b,w,(i:Int),c)=some (.ret (.ret false)):=by
 intro n
 induction n with
 |zero=>intro i h;omega
 |
  succ n ih=>
  intro i hn hi
  unfold wi at ih ⊢
  rw[aK]
  generalize aL _ n=rec at ih ⊢
  dsimp only
  by_cases h:i<4
  ·rw[cq (by omega),dK i,aA (show(i:Int)<4 by omega),bU (by omega)]
   have h2:∀v:Bool,(if v=true then(cN (cN (some false))) else(rec (x,a,b,w,((i+1:Nat):Int),c)))=some (.aS (x,a,b,c))∨(if v=true then(cN (cN (some false))) else(rec (x,a,b,w,((i+1:Nat):Int),c)))=some (.ret (.ret false)):=fun v=>by
    cases v with
    |true=>exact Or.inr rfl
    |false=>exact ih (i+1) (by omega) (by omega)
   split
   ·exact h2 true
   ·exact h2 _
  ·rw[eF (by omega)]
   exact Or.inl rfl
theorem MK(c:kU)(l:ZG)(hl:l.length≤aF)(hn:∀f∈l,(gz f.2.1).length≤aF):∀(n i:Nat),l.length -i<n→i≤l.length→(∀j(hj:j<l.length),j<i→uB c l[j].2.1=some true)→
 (aG (U:=Unit) (Cg n (l,(l.length:Int),(i:Int),c)) (fun _=>some true)=some true∧∀f∈l,uB c f.2.1=some true)∨aG (U:=Unit) (Cg n (l,(l.length:Int),(i:Int),c)) (fun _=>some true)=some false:=by
 intro n
 have hB:=hB
 induction n with
 |zero=>intro i h;omega
 |
  succ n ih=>
  intro i hn' hi hd
  unfold Cg at ih ⊢
  rw[aK]
  generalize aL _ n=rec at ih ⊢
  dsimp only
  by_cases h:i<l.length
  ·obtain⟨r,hr⟩:=lJ c l[i].2.1 (hn _ (lD h))
   rw[cq (by omega),dK i,aA (show(i:Int)<(l.length:Int) by omega),cJ (t:=cS) h,hr,aD]
   cases r with
   |false=>rw[aA (by decide)];exact Or.inr rfl
   |
    true=>
    rw[aB (by decide)]
    have e9:=MJ l (l.length:Int) (i:Int) l[i].2.2.1 c (Int.toNat (4:Int)+1) 0 (by decide) (by decide)
    rcases e9 with e9|e9
    ·have e9':wi (Int.toNat (4:Int)+1) (l,(l.length:Int),(i:Int),l[i].2.2.1,(0:Int),c)=some (.aS (l,(l.length:Int),(i:Int),c)):=e9
     rw[e9',aC]
     dsimp only
     rw[bU (by omega)]
     exact ih (i+1) (by omega) (by omega) fun j hj hji=>by
      by_cases ej:j=i
      ·subst ej;exact hr
      ·exact hd j hj (by omega)
    ·have e9':wi (Int.toNat (4:Int)+1) (l,(l.length:Int),(i:Int),l[i].2.2.1,(0:Int),c)=some (.ret (.ret false)):=e9
     rw[e9',jj]
     exact Or.inr rfl
  ·rw[eF (by omega)]
   refine Or.inl ⟨rfl,fun t ht=>?_⟩
   obtain⟨j,hj,rfl⟩:=iG ht
   exact hd j hj (by omega)
theorem xg(c:kU)(x:qd)(hl:x.2.2.2.2.1.length≤aF)(hn:∀f∈x.2.2.2.2.1,(gz f.2.1).length≤aF):∃r,Yu c x=some r∧(r=true→(1≤x.2.2.2.2.1.length∧(nth cS x.2.2.2.2.1 (0:Int)).2.1.1=3)∧∀f∈x.2.2.2.2.1,uB c f.2.1=some true):=by
 have no:∀y:Zm,y=some false→∃r,y=some r∧(r=true→(1≤x.2.2.2.2.1.length∧(nth cS x.2.2.2.2.1 (0:Int)).2.1.1=3)∧∀f∈x.2.2.2.2.1,uB c f.2.1=some true):=fun y hy=>⟨false,hy,fun h=>(by cases h)⟩
 unfold Yu
 by_cases h1:x.2.2.1<0
 ·rw[cq h1];exact no _ rfl
 ·rw[aB (show¬decide (x.2.2.1<(0:Int))=true by simpa using h1)]
  by_cases h2:(c.1.1.length:Int)≤x.2.2.1
  ·rw[cq h2];exact no _ rfl
  ·rw[aB (show¬decide ((c.1.1.length:Int)≤x.2.2.1)=true by simpa using h2)]
   by_cases h3:x.2.2.2.1<1
   ·rw[cq h3];exact no _ rfl
   ·rw[aB (show¬decide (x.2.2.2.1<(1:Int))=true by simpa using h3)]
    by_cases h4:(255:Int)<x.2.2.2.1
    ·rw[cq h4];exact no _ rfl
    ·rw[aB (show¬decide ((255:Int)<x.2.2.2.1)=true by simpa using h4)]
     by_cases h5:(x.2.2.2.2.1.length:Int)<1
     ·rw[cq h5];exact no _ rfl
     ·rw[aB (show¬decide ((x.2.2.2.2.1.length:Int)<(1:Int))=true by simpa using h5)]
      by_cases h6:(12:Int)<(x.2.2.2.2.1.length:Int)
      ·rw[cq h6];exact no _ rfl
      ·rw[aB (show¬decide ((12:Int)<(x.2.2.2.2.1.length:Int))=true by simpa using h6),aA (show(0:Int)<(x.2.2.2.2.1.length:Int) by omega),aD]
       by_cases h7:(nth cS x.2.2.2.2.1 (0:Int)).2.1.1=3
       rotate_left
       ·rw[aA (by simpa using h7)];exact no _ rfl
       ·rw[aB (by simp[h7]),aC]
        dsimp only
        rcases MK c x.2.2.2.2.1 hl hn (x.2.2.2.2.1.length+1) 0 (by omega) (by omega) (fun j hj h=>by omega) with⟨e,h⟩|e
        ·exact⟨true,e,fun _=>⟨⟨by omega,h7⟩,h⟩⟩
        ·exact no _ e
theorem A8(c:kU)(p:tq)(hp:p.2.1.length≤aF):∃r,YA c p=some r:=by
 have hB:=hB
 have key:∀(n i:Nat),p.2.1.length -i<n→i≤p.2.1.length→wm n (p.2.1,(p.2.1.length:Int),(i:Int),c,p)=some (.aS p)∨wm n (p.2.1,(p.2.1.length:Int),(i:Int),c,p)=some (.ret false):=by
  intro n
  induction n with
  |zero=>intro i h;omega
  |
   succ n ih=>
   intro i hn hi
   unfold wm at ih ⊢
   rw[aK]
   generalize aL _ n=rec at ih ⊢
   dsimp only
   by_cases h:i<p.2.1.length
   ·rw[cq (by omega),dK i,aA (show(i:Int)<(p.2.1.length:Int) by omega),bU (by omega)]
    rcases gG c (nth iK p.2.1 (i:Int)).2.2.1 (nth iK p.2.1 (i:Int)).2.2.2.1 with⟨_,e1⟩|⟨_,y,e1⟩
    ·rw[e1,aD]
     dsimp only
     rw[aB (by decide)]
     exact ih (i+1) (by omega) (by omega)
    ·rw[e1,aD]
     exact Or.inr rfl
   ·rw[eF (by omega)]
    exact Or.inl rfl
 unfold YA
 have e:=key (Int.toNat (List.length p.2.1:Int)+1) 0 (by omega) (by omega)
 rcases e with e|e
 ·have e':wm (Int.toNat (List.length p.2.1:Int)+1) (p.2.1,(List.length p.2.1:Int),(0:Int),c,p)=some (.aS p):=e
  rw[e',aC]
  refine gK ?_ fun v=>⟨v,rfl⟩
  repeat' (first|exact⟨_,rfl⟩|split)
 ·have e':wm (Int.toNat (List.length p.2.1:Int)+1) (p.2.1,(List.length p.2.1:Int),(0:Int),c,p)=some (.ret false):=e
  rw[e',jj]
  exact⟨_,rfl⟩
structure SW(s:bF):Prop where
 kM:s.2.1.length≤aF
 dh:s.2.2.1.length≤aF
 rules:s.2.2.2.1.length≤aF
 dX:s.2.2.2.2.2.1.length≤aF
 nb:NB s
 rl:∀r∈s.2.2.2.1,r.2.2.1.length≤aF∧r.2.2.2.1.length≤aF∧r.2.2.2.2.1.length*80≤aF
 may:∀p∈s.2.2.2.2.2.1,p.2.1.length≤aF
structure TG(s:bF):Prop where
 many:s.2.2.1.length≤16
 fields:∀x∈s.2.2.1,1≤x.2.2.2.2.1.length
 ok:∀x∈s.2.2.1,∀f∈x.2.2.2.2.1,uB (s,()) f.2.1=some true
 kM:UO s
 rules:∀r∈s.2.2.2.1,RK ((s,()),(r,()))
 self:∀x∈s.2.2.1,(nth cS x.2.2.2.2.1 (0:Int)).2.1.1=3
 uok:∀u∈s.2.1,Uw (s,()) u=some true
theorem HI(s:bF)(h:s.2.2.2.2.2.1.length≤aF):∃r,f80 (s,())=some r∧(r=true→s.2.2.1.length≤16):=by
 have no:∀y:Zm,y=some false→∃r,y=some r∧(r=true→s.2.2.1.length≤16):=fun y hy=>⟨false,hy,fun h=>(by cases h)⟩
 unfold f80
 obtain⟨i,hi,_⟩:=alZ fv Vi s.2.2.2.2.2.1 (fun p=>decide ((64:Int)<(p.2.1.length:Int))) (fun x _=>rfl) h
 have e1:xW s.2.2.2.2.2.1=some (decide ((0:Int)≤i)):=by
  unfold xW
  have:Cc s.2.2.2.2.2.1=some i:=hi
  rw[this];rfl
 dsimp only
 by_cases h1:(8:Int)<(s.1.length:Int)
 ·rw[cq h1];exact no _ rfl
 ·rw[aB (show¬decide ((8:Int)<(s.1.length:Int))=true by simpa using h1)]
  by_cases h2:(64:Int)<(s.2.1.length:Int)
  ·rw[cq h2];exact no _ rfl
  ·rw[aB (show¬decide ((64:Int)<(s.2.1.length:Int))=true by simpa using h2)]
   by_cases h3:(16:Int)<(s.2.2.1.length:Int)
   ·rw[cq h3];exact no _ rfl
   ·rw[aB (show¬decide ((16:Int)<(s.2.2.1.length:Int))=true by simpa using h3)]
    have yes:∀y:Zm,(∃r,y=some r)→∃r,y=some r∧(r=true→s.2.2.1.length≤16):=fun y ⟨r,hr⟩=>⟨r,hr,fun _=>by omega⟩
    apply yes
    refine gK ?_ fun v=>?_
    ·repeat' (first|exact⟨_,rfl⟩|split)
    ·cases v with
     |true=>exact⟨_,rfl⟩
     |false=>rw[aB (by decide),e1];exact⟨_,rfl⟩
theorem EJ(s:bF)(h:s.2.1.length≤aF):∃r,Cf s.2.1 (s,())=some r∧(r=true→∀u∈s.2.1,Uw (s,()) u=some true):=by
 have hp:∀x∈s.2.1,uC x (s,())=some (!((Uw (s,()) x).getD false),(s,())):=fun x _=>by
  obtain⟨r,hr⟩:=lK (s,()) x
  unfold uC
  rw[hr];rfl
 obtain⟨i,hi,him⟩:=Uv bB uC s.2.1 (s,()) _ hp h
 have e:Cd s.2.1 (s,())=some (i,(s,())):=hi
 unfold Cf Ce
 rw[e]
 refine⟨_,rfl,fun hr x hx=>?_⟩
 obtain⟨r,hr2⟩:=lK (s,()) x
 cases r with
 |true=>exact hr2
 |
  false=>
  have:0≤i:=him.2 ⟨x,hx,by rw[hr2];rfl⟩
  simp[this] at hr
theorem CO(s:bF)(hs:SW s):∃r,Cj s.2.2.1 (s,())=some r∧(r=true→∀x∈s.2.2.1,(1≤x.2.2.2.2.1.length∧(nth cS x.2.2.2.2.1 (0:Int)).2.1.1=3)∧∀f∈x.2.2.2.2.1,uB (s,()) f.2.1=some true):=by
 have hp:∀x∈s.2.2.1,uD x (s,())=some (!((Yu (s,()) x).getD false),(s,())):=fun x hx=>by
  obtain⟨r,hr,_⟩:=xg (s,()) x (hs.nb x hx).1 (hs.nb x hx).2
  unfold uD
  rw[hr];rfl
 obtain⟨i,hi,him⟩:=Uv aU uD s.2.2.1 (s,()) _ hp hs.dh
 have e:Ch s.2.2.1 (s,())=some (i,(s,())):=hi
 unfold Cj Ci
 rw[e]
 refine⟨_,rfl,fun hr x hx=>?_⟩
 obtain⟨r,hr2,hm⟩:=xg (s,()) x (hs.nb x hx).1 (hs.nb x hx).2
 cases r with
 |true=>exact hm rfl
 |
  false=>
  have:0≤i:=him.2 ⟨x,hx,by rw[hr2];rfl⟩
  simp[this] at hr
theorem HJ(s:bF)(hs:SW s)(hU:UO s):∃r,Cp s.2.2.2.1 (s,())=some r∧(r=true→∀x∈s.2.2.2.1,RK ((s,()),(x,()))):=by
 have hk:=fun x(hx:x∈s.2.2.2.1)=>Lw ((s,()),(x,())) hs.nb hU (hs.rl x hx).1 (hs.rl x hx).2.1 (hs.rl x hx).2.2
 have hp:∀x∈s.2.2.2.1,uE x (s,())=some (!((Yy ((s,()),(x,()))).getD false),(s,())):=fun x hx=>by
  obtain⟨r,hr,_⟩:=hk x hx
  unfold uE Hr
  rw[hr];rfl
 obtain⟨i,hi,him⟩:=Uv bX uE s.2.2.2.1 (s,()) _ hp hs.rules
 have e:Cn s.2.2.2.1 (s,())=some (i,(s,())):=hi
 unfold Cp Co
 rw[e]
 refine⟨_,rfl,fun hr x hx=>?_⟩
 obtain⟨r,hr2,hm⟩:=hk x hx
 cases r with
 |true=>exact hm rfl
 |
  false=>
  have:0≤i:=him.2 ⟨x,hx,by rw[hr2];rfl⟩
  simp[this] at hr
theorem yX(s:bF)(hs:SW s):∃r,Cs s.2.2.2.2.2.1 (s,())=some r:=by
 have hp:∀x∈s.2.2.2.2.2.1,uF x (s,())=some (!((YA (s,()) x).getD false),(s,())):=fun x hx=>by
  obtain⟨r,hr⟩:=A8 (s,()) x (hs.may x hx)
  unfold uF
  rw[hr];rfl
 obtain⟨i,hi,_⟩:=Uv fv uF s.2.2.2.2.2.1 (s,()) _ hp hs.dX
 have e:Cq s.2.2.2.2.2.1 (s,())=some (i,(s,())):=hi
 unfold Cs Cr
 rw[e];exact⟨_,rfl⟩
theorem Bp(s:bF)(hs:SW s):∃r,YB s=some r∧(r=0→TG s):=by
 have no:∀(y:Dm)(z:Int),z≠0→y=some z→∃r,y=some r∧(r=0→TG s):=fun y z hz hy=>⟨z,hy,fun h=>absurd h hz⟩
 unfold YB
 obtain⟨b,hb,hbm⟩:=HI s hs.dX
 rw[hb,aD]
 cases b with
 |false=>rw[aA (by decide)];exact no _ 2 (by decide) rfl
 |
  true=>
  rw[aB (by decide)]
  obtain⟨b1,hb1,hm1⟩:=EJ s hs.kM
  rw[hb1,aD]
  cases b1 with
  |false=>exact no _ 120 (by decide) rfl
  |
   true=>
   rw[aB (by decide)]
   obtain⟨b2,hb2,hm2⟩:=CO s hs
   rw[hb2,aD]
   cases b2 with
   |false=>exact no _ 120 (by decide) rfl
   |
    true=>
    rw[aB (by decide)]
    have hU:UO s:=fun x hx f hf h1=>mj ((hm2 rfl x hx).2 f hf) h1
    obtain⟨b3,hb3,hm3⟩:=HJ s hs hU
    rw[hb3,aD]
    cases b3 with
    |false=>exact no _ 120 (by decide) rfl
    |
     true=>
     rw[aB (by decide)]
     obtain⟨b4,hb4⟩:=yX s hs
     rw[hb4,aD,aD]
     cases b4 with
     |false=>exact no _ 120 (by decide) rfl
     |true=>exact⟨0,rfl,fun _=>⟨hbm rfl,fun x hx=>(hm2 rfl x hx).1.1,fun x hx=>(hm2 rfl x hx).2,hU,hm3 rfl,fun x hx=>(hm2 rfl x hx).1.2,hm1 rfl⟩⟩
structure SS(s:bF):Prop where
 kq:s.1.length≤aF
 kM:s.2.1.length≤aF
 dh:s.2.2.1.length≤aF
 rules:s.2.2.2.1.length≤aF
 fX:s.2.2.2.2.1.length≤aF
 dX:s.2.2.2.2.2.1.length≤aF
 fields:∀x∈s.2.2.1,x.2.2.2.2.1.length≤aF∧∀f∈x.2.2.2.2.1,(gz f.2.1).length≤aF
 sN:∀x∈s.2.2.1,x.2.2.2.2.2.1.length≤aF∧∀d∈x.2.2.2.2.2.1,d.1.length≤aF∧d.2.2.1.length≤aF
 rl:∀r∈s.2.2.2.1,r.2.2.1.length≤aF∧r.2.2.2.1.length≤aF∧r.2.2.2.2.1.length≤aF
 mv:∀c∈s.2.2.2.2.1,c.2.2.2.2.1.length≤aF
 may:∀p∈s.2.2.2.2.2.1,p.2.1.length≤aF
theorem VW(x y:Zs)(hl:y.length≤aF):∃r,UW x y=some r:=PG .str (fun a b=>decide (a=b)) x y fun e=>e▸hl
theorem agA(x y:Zd)(hl:y.length≤aF):∃r,f61 x y=some r:=PG (.int .i64) (fun a b=>decide (a=b)) x y fun e=>e▸hl
theorem yY(a b:Ig)(h:(gz b.2.1).length≤aF):∃r,Pr a b=some r:=by
 obtain⟨q,hq⟩:=VW (gz a.2.1) (gz b.2.1) h
 unfold Pr
 refine gK ?_ fun v=>⟨v,rfl⟩
 unfold gz at hq
 simp only[hq,aD]
 repeat' (first|exact⟨_,rfl⟩|split)
theorem xM(a b:zS)(h:b.1.length≤aF)(h2:b.2.2.1.length≤aF):∃r,Ps a b=some r:=by
 obtain⟨q,hq⟩:=VW a.1 b.1 h
 obtain⟨q2,hq2⟩:=agA a.2.2.1 b.2.2.1 h2
 unfold Ps
 refine gK ?_ fun v=>⟨v,rfl⟩
 simp only[hq,hq2,aD]
 repeat' (first|exact⟨_,rfl⟩|split)
theorem xN(a b:qd)(h1:b.2.2.2.2.1.length≤aF∧∀f∈b.2.2.2.2.1,(gz f.2.1).length≤aF)(h2:b.2.2.2.2.2.1.length≤aF∧∀d∈b.2.2.2.2.2.1,d.1.length≤aF∧d.2.2.1.length≤aF):∃r,Pt a b=some r:=by
 obtain⟨q,hq⟩:∃r,Eu a.2.2.2.2.1 b.2.2.2.2.1=some r:=X1 cS Pr _ _ (fun x _ y hy=>yY x y (h1.2 y hy)) fun e=>e▸h1.1
 obtain⟨q2,hq2⟩:∃r,Ev a.2.2.2.2.2.1 b.2.2.2.2.2.1=some r:=X1 iJ Ps _ _ (fun x _ y hy=>xM x y (h2.2 y hy).1 (h2.2 y hy).2) fun e=>e▸h2.1
 unfold Pt
 refine gK ?_ fun v=>⟨v,rfl⟩
 simp only[hq,hq2,aD]
 repeat' (first|exact⟨_,rfl⟩|split)
theorem A9(a b:eU)(h:b.2.2.1.length≤aF∧b.2.2.2.1.length≤aF∧b.2.2.2.2.1.length≤aF):∃r,Pu a b=some r:=by
 obtain⟨q1,hq1⟩:∃r,XI a.2.2.1 b.2.2.1=some r:=PG bG (fun x y=>bM bG x y) _ _ fun e=>e▸h.1
 obtain⟨q2,hq2⟩:∃r,XJ a.2.2.2.1 b.2.2.2.1=some r:=PG cH (fun x y=>bM cH x y) _ _ fun e=>e▸h.2.1
 obtain⟨q3,hq3⟩:∃r,XK a.2.2.2.2.1 b.2.2.2.2.1=some r:=PG dF (fun x y=>bM dF x y) _ _ fun e=>e▸h.2.2
 unfold Pu
 refine gK ?_ fun v=>⟨v,rfl⟩
 simp only[hq1,hq2,hq3,aD]
 repeat' (first|exact⟨_,rfl⟩|split)
theorem wv(a b:wP)(h:b.2.2.2.2.1.length≤aF):∃r,Mx a b=some r:=by
 obtain⟨q1,hq1⟩:∃r,Vg a.2.2.2.2.1 b.2.2.2.2.1=some r:=PG bB (fun x y=>bM bB x y) _ _ fun e=>e▸h
 unfold Mx
 refine gK ?_ fun v=>⟨v,rfl⟩
 simp only[hq1,aD]
 repeat' (first|exact⟨_,rfl⟩|split)
theorem wz(a b:tq)(h:b.2.1.length≤aF):∃r,My a b=some r:=by
 obtain⟨q1,hq1⟩:∃r,Vh a.2.1 b.2.1=some r:=PG iK (fun x y=>bM iK x y) _ _ fun e=>e▸h
 unfold My
 refine gK ?_ fun v=>⟨v,rfl⟩
 simp only[hq1,aD]
 repeat' (first|exact⟨_,rfl⟩|split)
theorem EK(a s:bF)(hs:SS s):∃r,Ys a s=some r:=by
 obtain⟨q1,hq1⟩:=VW a.1 s.1 hs.kq
 obtain⟨q2,hq2⟩:∃r,f98 a.2.1 s.2.1=some r:=PG bB (fun x y=>bM bB x y) _ _ fun e=>e▸hs.kM
 obtain⟨q3,hq3⟩:∃r,Js a.2.2.1 s.2.2.1=some r:=X1 aU Pt _ _ (fun x _ y hy=>xN x y (hs.fields y hy) (hs.sN y hy)) fun e=>e▸hs.dh
 obtain⟨q4,hq4⟩:∃r,B9 a.2.2.2.1 s.2.2.2.1=some r:=X1 bX Pu _ _ (fun x _ y hy=>A9 x y (hs.rl y hy)) fun e=>e▸hs.rules
 obtain⟨q5,hq5⟩:∃r,Ca a.2.2.2.2.1 s.2.2.2.2.1=some r:=X1 iU Mx _ _ (fun x _ y hy=>wv x y (hs.mv y hy)) fun e=>e▸hs.fX
 obtain⟨q6,hq6⟩:∃r,Cb a.2.2.2.2.2.1 s.2.2.2.2.2.1=some r:=X1 fv My _ _ (fun x _ y hy=>wz x y (hs.may y hy)) fun e=>e▸hs.dX
 unfold Ys
 refine gK ?_ fun v=>⟨v,rfl⟩
 simp only[hq1,hq2,hq3,hq4,hq5,hq6,aD]
 repeat' (first|exact⟨_,rfl⟩|split)
theorem yZ(a b:Int)(h:0≤b):∃r,Qt a b=some r:=⟨_,aA h⟩
theorem YW(m:Int)(d:zS)(l:Zd)(hl:l.length≤aF):∀(n i:Nat)(e:Int),l.length -i<n→i≤l.length→(∃e',sJ n (m,e,l,(l.length:Int),(i:Int),d)=some (.aS (m,e',d)))∨sJ n (m,e,l,(l.length:Int),(i:Int),d)=some (.ret false):=by
 intro n
 have hB:=hB
 induction n with
 |zero=>intro i e h;omega
 |
  succ n ih=>
  intro i e hn hi
  unfold sJ at ih ⊢
  rw[aK]
  generalize aL _ n=rec at ih ⊢
  dsimp only
  by_cases h:i<l.length
  ·rw[cq (by omega),dK i,aA (show(i:Int)<(l.length:Int) by omega),bU (by omega)]
   by_cases h0:nth (.int .i64) l (i:Int)<(0:Int)
   ·rw[cq h0];exact Or.inr rfl
   ·rw[aB (show¬decide (nth (.int .i64) l (i:Int)<(0:Int))=true by simpa using h0)]
    obtain⟨q,hq⟩:=yZ e (nth (.int .i64) l (i:Int)) (Int.not_lt.1 h0)
    rw[hq]
    have key:∀v:Bool,(∃e',(if v=true then(cN (some false)) else(if 0≤(nth (.int .i64) l (i:Int)) then(rec (m,lM .or .u64 e (IntKind.u64.wrap ((1:Int)*2^(min (Int.toNat (nth (.int .i64) l (i:Int))) 64))),l,(l.length:Int),((i+1:Nat):Int),d)) else none))=some (.aS (m,e',d)))∨(if v=true then(cN (some false)) else(if 0≤(nth (.int .i64) l (i:Int)) then(rec (m,lM .or .u64 e (IntKind.u64.wrap ((1:Int)*2^(min (Int.toNat (nth (.int .i64) l (i:Int))) 64))),l,(l.length:Int),((i+1:Nat):Int),d)) else none))=some (.ret false):=fun v=>by
     cases v with
     |true=>exact Or.inr rfl
     |
      false=>
      rw[aB (by decide),aA (Int.not_lt.1 h0)]
      exact ih (i+1) _ (by omega) (by omega)
    split
    ·exact key true
    ·exact key q
  ·rw[eF (by omega)]
   exact Or.inl ⟨e,rfl⟩
theorem CP(d:zS)(m:Int)(hl:d.2.2.1.length≤aF):∃r,Qu d m=some r:=by
 unfold Qu
 have e:=YW m d d.2.2.1 hl (Int.toNat (List.length d.2.2.1:Int)+1) 0 0 (by omega) (by omega)
 rcases e with⟨e',e⟩|e
 ·have h:sJ (Int.toNat (List.length d.2.2.1:Int)+1) (m,(0:Int),d.2.2.1,(List.length d.2.2.1:Int),(0:Int),d)=some (.aS (m,e',d)):=e
  rw[h,aC]
  dsimp only
  refine gK ?_ fun v=>⟨v,rfl⟩
  by_cases h0:0≤d.2.2.2.1
  ·obtain⟨q,hq⟩:=yZ e' d.2.2.2.1 h0
   rw[hq]
   repeat' (first|exact⟨_,rfl⟩|split)
  ·rw[aB (show¬decide ((0:Int)≤d.2.2.2.1)=true by simpa using h0)]
   repeat' (first|exact⟨_,rfl⟩|split)
 ·have h:sJ (Int.toNat (List.length d.2.2.1:Int)+1) (m,(0:Int),d.2.2.1,(List.length d.2.2.1:Int),(0:Int),d)=some (.ret false):=e
  rw[h,jj]
  exact⟨_,rfl⟩
theorem YX(x:qd)(l:Ij)(hl:l.length≤aF)(hd:∀d∈l,d.2.2.1.length≤aF):∀(n i:Nat),l.length -i<n→i≤l.length→∃r,aG (U:=Unit) (yU n (l,(l.length:Int),(i:Int),x)) (fun _=>some (0:Int))=some r:=by
 intro n
 have hB:=hB
 induction n with
 |zero=>intro i h;omega
 |
  succ n ih=>
  intro i hn hi
  unfold yU at ih ⊢
  rw[aK]
  generalize aL _ n=rec at ih ⊢
  dsimp only
  by_cases h:i<l.length
  ·obtain⟨r,hr⟩:=CP l[i] (x.2.2.2.2.1.length:Int) (hd _ (lD h))
   rw[cq (by omega),dK i,aA (show(i:Int)<(l.length:Int) by omega),cJ (t:=iJ) h,bU (by omega),hr,aD]
   cases r with
   |false=>exact⟨_,rfl⟩
   |true=>rw[aB (by decide)];exact ih (i+1) (by omega) (by omega)
  ·rw[eF (by omega)]
   exact⟨_,rfl⟩
theorem CU(x:qd)(hl:x.2.2.2.2.2.1.length≤aF)(hd:∀d∈x.2.2.2.2.2.1,d.2.2.1.length≤aF):∃r,f90 x=some r:=by
 unfold f90
 have h4:∃r,aG (U:=Unit) (yU (Int.toNat (List.length x.2.2.2.2.2.1:Int)+1) (x.2.2.2.2.2.1,(List.length x.2.2.2.2.2.1:Int),(0:Int),x)) (fun _=>some (0:Int))=some r:=YX x _ hl hd _ 0 (by omega) (by omega)
 have h2:∀v:Bool,∃r,aG (U:=qd) (if v=true then(cN (some (130:Int))) else(some (.aS x))) (fun v1=>aG (U:=Unit) (yU (Int.toNat (List.length v1.2.2.2.2.2.1:Int)+1) (v1.2.2.2.2.2.1,(List.length v1.2.2.2.2.2.1:Int),(0:Int),v1)) fun _=>some (0:Int))=some r:=fun v=>by
  cases v with
  |true=>exact⟨_,rfl⟩
  |false=>exact h4
 split
 ·exact h2 true
 ·split
  ·exact h2 true
  ·exact h2 _
theorem zb(s:bF)(hs:SS s):∃r,f56 s=some r:=by
 have hB:=hB
 have key:∀(n i:Nat),s.2.2.1.length -i<n→i≤s.2.2.1.length→∃r,aG (U:=Unit) (Hv n (s.2.2.1,(s.2.2.1.length:Int),(i:Int))) (fun _=>some (0:Int))=some r:=by
  intro n
  have hl:=hs.dh
  induction n with
  |zero=>intro i h;omega
  |
   succ n ih=>
   intro i hn hi
   unfold Hv at ih ⊢
   rw[aK]
   generalize aL _ n=rec at ih ⊢
   dsimp only
   by_cases h:i<s.2.2.1.length
   ·have hd:=hs.sN _ (lD h)
    obtain⟨r,hr⟩:=CU s.2.2.1[i] hd.1 fun d hdm=>(hd.2 d hdm).2
    rw[cq (by omega),dK i,aA (show(i:Int)<(s.2.2.1.length:Int) by omega),cJ (t:=aU) h,bU (by omega),hr,aD]
    split
    ·exact⟨_,rfl⟩
    ·exact ih (i+1) (by omega) (by omega)
   ·rw[eF (by omega)]
    exact⟨_,rfl⟩
 exact key _ 0 (by omega) (by omega)
theorem Lx(l:Zd)(m:Int)(hl:l.length≤1000000):∃b d,Jk l m []=some (b,d):=by
 have hB:=hB
 have key:∀(n i:Nat)(d:Zr),l.length -i<n→i≤l.length→d.length≤i→∃b d',aG (U:=Zd×Int×Zr) (xc n (l,m,l,(l.length:Int),(i:Int),d)) (fun u=>match u with|⟨a,b,c⟩=>some (decide ((List.length a:Int)=b),c))=some (b,d'):=by
  intro n
  induction n with
  |zero=>intro i d h;omega
  |
   succ n ih=>
   intro i d hn hi hd
   unfold xc at ih ⊢
   rw[aK]
   generalize aL _ n=rec at ih ⊢
   dsimp only
   by_cases h:i<l.length
   ·rw[cq (by omega),dK i,aA (show(i:Int)<(l.length:Int) by omega)]
    split
    ·exact⟨_,_,rfl⟩
    ·rw[aA (by omega),bU (by omega)]
     exact ih (i+1) _ (by omega) (by omega) (cW (dp (kt:=.int .i64)) (by omega))
   ·rw[eF (by omega)]
    exact⟨_,_,rfl⟩
 exact key _ 0 [] (by omega) (by omega) (by simp)
theorem wu.len{s:bF}{l:Zd}(h:wu s l):l.length≤s.2.2.1.length:=jZ _ l h.oK fun x hx=>(h.all x).1 hx
theorem TG.sb{s:bF}(h:TG s)(hs:SW s):SB s:=⟨by have:=h.many;omega,hs.rules,fun r hr=>(hs.rl r hr).1⟩
theorem Ly(s:bF)(hs:SW s):∃r,f91 s=some r∧(r=0→TG s):=by
 unfold f91
 obtain⟨r,hr,hm⟩:=Bp s hs
 rw[hr,aD]
 by_cases h:r=0
 ·rw[aB (by simp[h])]
  have hT:=hm h
  obtain⟨l,ok,e,ho,_⟩:=EH (hT.sb hs)
  rw[ho,aD]
  have yes:∀y:Dm,(∃z,y=some z)→∃z,y=some z∧(z=0→TG s):=fun y ⟨z,hz⟩=>⟨z,hz,fun _=>hT⟩
  apply yes
  dsimp only
  repeat' (first|exact⟨_,rfl⟩|split)
 ·rw[aA (by simp[h])]
  exact⟨r,rfl,fun h'=>absurd h' h⟩
theorem HK(s:bF)(hs:SW s):∃r,f57 s=some r∧(r=0→TG s∧∃l,Xb s=some (l,true,0)∧wu s l):=by
 unfold f57
 obtain⟨r,hr,hm⟩:=Ly s hs
 rw[hr,aD]
 by_cases h:r=0
 ·rw[aB (by simp[h])]
  have hT:=hm h
  obtain⟨l,ok,e,ho,hk⟩:=EH (hT.sb hs)
  rw[ho,aD]
  dsimp only
  by_cases he:e=0
  ·subst he
   rw[aB (by decide)]
   cases ok with
   |false=>rw[aA (by decide)];exact⟨141,rfl,fun h'=>absurd h' (by decide)⟩
   |
    true=>
    rw[aB (by decide)]
    have hR:=hk rfl rfl fun r hr=>⟨(hT.rules r hr).h0,(hT.rules r hr).h1⟩
    obtain⟨b,d,hw⟩:=Lx l (s.2.2.1.length:Int) (by have:=hR.len;have:=hT.many;omega)
    rw[hw,aD]
    have yes:∀y:Dm,(∃z,y=some z)→∃z,y=some z∧(z=0→TG s∧∃l',some (l,true,(0:Int))=some (l',true,0)∧wu s l'):=fun y ⟨z,hz⟩=>⟨z,hz,fun _=>⟨hT,l,rfl,hR⟩⟩
    apply yes
    dsimp only
    repeat' (first|exact⟨_,rfl⟩|split)
  ·rw[aA (by simp[he])]
   exact⟨e,rfl,fun h'=>absurd h' he⟩
 ·rw[aA (by simp[h])]
  exact⟨r,rfl,fun h'=>absurd h' h⟩
theorem jQ(s:bF)(hN:NB s)(a b v:Int):∃r,Ej s a b v=some r:=by
 unfold Ej
 rcases gG (s,()) a b with⟨hi,e⟩|⟨_,y,e⟩
 ·rw[e,aD]
  dsimp only
  rw[aA rfl]
  have hm:=hi.mem
  obtain⟨q,hq⟩:=lJ (s,()) (nth cS (aP s a) b).2.1 ((hN _ hm.1).2 _ hm.2)
  refine gK ?_ fun v=>⟨v,rfl⟩
  have hq':uB (s,()) (nth cS (aP (s,()).1 a) b).2.1=some q:=hq
  rw[hq',aD]
  repeat' (first|exact⟨_,rfl⟩|split)
 ·rw[e,aD]
  exact⟨_,rfl⟩
theorem Bq(s:bF)(hN:NB s)(a:Int):∃r,O8 s a=some r∧(r=true→0≤a∧a<(s.2.2.1.length:Int)):=by
 have hB:=hB
 have no:∀y:Zm,y=some false→∃r,y=some r∧(r=true→0≤a∧a<(s.2.2.1.length:Int)):=fun y hy=>⟨false,hy,fun h=>(by cases h)⟩
 unfold O8
 by_cases h0:a<0
 ·rw[cq h0];exact no _ rfl
 ·rw[aB (show¬decide (a<(0:Int))=true by simpa using h0)]
  by_cases h1:(s.2.2.1.length:Int)≤a
  ·rw[bR h1];exact no _ rfl
  ·rw[cD h1,aD,aB (by decide),aC]
   dsimp only
   rw[aA (Int.not_lt.1 h0),aA (Int.not_le.1 h1)]
   have yes:∀y:Zm,(∃z,y=some z)→∃z,y=some z∧(z=true→0≤a∧a<(s.2.2.1.length:Int)):=fun y ⟨z,hz⟩=>⟨z,hz,fun _=>⟨Int.not_lt.1 h0,Int.not_le.1 h1⟩⟩
   apply yes
   have hl:=(hN _ (bE (t:=aU) (l:=s.2.2.1) (a:=a) (Int.not_lt.1 h0) (Int.not_le.1 h1))).1
   generalize (nth aU s.2.2.1 a).2.2.2.2.1=l at hl ⊢
   have key:∀(n i:Nat),l.length -i<n→i≤l.length→tk n (a,l,l,(l.length:Int),(i:Int),s)=some (.aS l)∨tk n (a,l,l,(l.length:Int),(i:Int),s)=some (.ret false):=by
    intro n
    induction n with
    |zero=>intro i h;omega
    |
     succ n ih=>
     intro i hn hi
     unfold tk at ih ⊢
     rw[aK]
     generalize aL _ n=rec at ih ⊢
     dsimp only
     by_cases h:i<l.length
     ·rw[cq (by omega),dK i,aA (show(i:Int)<(l.length:Int) by omega),bU (by omega)]
      obtain⟨q,hq⟩:=jQ s hN a (i:Int) (nth cS l (i:Int)).2.1.2.1
      rw[hq,aD]
      cases q with
      |false=>exact Or.inr rfl
      |true=>rw[aB (by decide)];exact ih (i+1) (by omega) (by omega)
     ·rw[eF (by omega)]
      exact Or.inl rfl
   have e:=key (Int.toNat (List.length l:Int)+1) 0 (by omega) (by omega)
   rcases e with e|e
   ·have e':tk (Int.toNat (List.length l:Int)+1) (a,l,l,(List.length l:Int),(0:Int),s)=some (.aS l):=e
    rw[e',aC]
    refine gK ?_ fun v=>⟨v,rfl⟩
    by_cases hp:(0:Int)<(l.length:Int)
    ·rw[cq hp,aA hp];exact⟨_,rfl⟩
    ·rw[aB (show¬decide ((0:Int)<(l.length:Int))=true by simpa using hp)];exact⟨_,rfl⟩
   ·have e':tk (Int.toNat (List.length l:Int)+1) (a,l,l,(List.length l:Int),(0:Int),s)=some (.ret false):=e
    rw[e',jj];exact⟨_,rfl⟩
theorem ML(a b:jx)(n:Int):∃r,O9 a b n=some r:=by
 unfold O9
 by_cases h1:a.1=b.1
 ·rw[aB (by simp[h1])]
  by_cases e1:a.1=1
  ·rw[cq e1,aD,aA rfl]
   repeat' (first|exact⟨_,rfl⟩|split)
  ·rw[aB (show¬decide (a.1=(1:Int))=true by simpa using e1)]
   by_cases e2:a.1=2
   ·rw[bR e2,aD,aA rfl]
    repeat' (first|exact⟨_,rfl⟩|split)
   ·rw[cD e2,aD,aB (by decide),aC]
    dsimp only
    refine gK ?_ fun v=>⟨v,rfl⟩
    repeat' (first|exact⟨_,rfl⟩|split)
 ·rw[aA (by simp[h1])];exact⟨_,rfl⟩
theorem YY(l m:ZG)(k:Zw)(hk:k.length≤aF):∀(n i:Nat)(N O:List Bool),k.length -i<n→i≤k.length→N.length=l.length→O.length=m.length→
 ∃r,aG (U:=Unit) (AT n (l,m,k,(k.length:Int),(i:Int),N,O)) (fun _=>some true)=some r:=by
 intro n
 have hB:=hB
 induction n with
 |zero=>intro i N O h;omega
 |
  succ n ih=>
  intro i N O hn hi hN hO
  unfold AT at ih ⊢
  rw[aK]
  generalize aL _ n=rec at ih ⊢
  dsimp only
  by_cases h:i<k.length
  ·rw[cq (by
    omega),dK i,aA (show(i:Int)<(k.length:Int) by omega)]
   generalize nth bB k (i:Int)=mv
   by_cases h1:mv.2.2.2.1<(1:Int)
   ·rw[cq h1];exact⟨_,rfl⟩
   ·rw[aB (show¬decide (mv.2.2.2.1<(1:Int))=true by simpa using h1)]
    by_cases h2:(l.length:Int)≤mv.2.2.2.1
    ·rw[cq h2];exact⟨_,rfl⟩
    ·rw[aB (show¬decide ((l.length:Int)≤mv.2.2.2.1)=true by simpa using h2)]
     by_cases h3:mv.2.2.1<(1:Int)
     ·rw[cq h3];exact⟨_,rfl⟩
     ·rw[aB (show¬decide (mv.2.2.1<(1:Int))=true by simpa using h3)]
      by_cases h4:(m.length:Int)≤mv.2.2.1
      ·rw[cq h4];exact⟨_,rfl⟩
      ·rw[aB (show¬decide ((m.length:Int)≤mv.2.2.1)=true by simpa using h4)]
       have p0:(0:Int)≤mv.2.2.2.1:=Int.le_trans (by decide) (Int.not_lt.1 h1)
       have p1:mv.2.2.2.1<(l.length:Int):=Int.not_le.1 h2
       have q0:(0:Int)≤mv.2.2.1:=Int.le_trans (by decide) (Int.not_lt.1 h3)
       have q1:mv.2.2.1<(m.length:Int):=Int.not_le.1 h4
       have p2:mv.2.2.2.1<(N.length:Int):=by rw[hN];exact p1
       have q2:mv.2.2.1<(O.length:Int):=by rw[hO];exact q1
       rw[aA p0,aA p2]
       have key:∀v:Bool,∃r,aG (U:=Unit) (aG (U:=ZG×ZG×Zw×Int×Int×gQ×List Bool×List Bool) (if v=true then(cN (cN (some false))) else(some (.aS (l,m,k,(k.length:Int),(i:Int),mv,N,O)))) fun u=>match u with|⟨d,e,f,g,h,a,b,c⟩=>if 0≤a.2.2.2.1 then(if a.2.2.2.1<(List.length b:Int) then(if 0≤a.2.2.1 then(if a.2.2.1<(List.length c:Int) then(if 0≤a.2.2.2.1 then(if a.2.2.2.1<(List.length d:Int) then(if 0≤a.2.2.1 then(if a.2.2.1<(List.length e:Int) then(Option.bind (O9 (((nth cS d a.2.2.2.1).2).1) (((nth cS e a.2.2.1).2).1) a.2.2.2.2.1) fun y12=>if(!y12)=true then(cN (some false)) else(rec (d,e,f,g,aQ (h+(1:Int)),List.set b (Int.toNat a.2.2.2.1) true,List.set c (Int.toNat a.2.2.1) true))) else none) else none) else none) else none) else none) else none) else none) else none) (fun _=>some true)=some r:=fun v=>by
        cases v with
        |true=>exact⟨_,rfl⟩
        |
         false=>
         rw[aB (by decide),aC]
         dsimp only
         rw[aA p0,aA p2,aA q0,aA q2,aA p0,aA p1,aA q0,aA q1]
         obtain⟨z,hz⟩:=ML ((nth cS l mv.2.2.2.1).2).1 ((nth cS m mv.2.2.1).2).1 mv.2.2.2.2.1
         rw[hz,aD]
         cases z with
         |false=>exact⟨_,rfl⟩
         |
          true=>
          rw[aB (by decide),bU (by omega)]
          exact ih (i+1) _ _ (by omega) (by omega) (by rw[cP];exact hN) (by rw[cP];exact hO)
       split
       ·exact key true
       ·exact key _
  ·rw[eF (by omega)]
   exact⟨_,rfl⟩
theorem HL(s:bF)(hN:NB s)(c:wP)(hc:c.2.2.2.2.1.length≤aF):∃r,f93 s c=some r:=by
 have hB:=hB
 unfold f93
 by_cases h0:c.2.2.1=c.2.2.2.1
 ·rw[cq h0];exact⟨_,rfl⟩
 ·rw[aB (show¬decide (c.2.2.1=c.2.2.2.1)=true by simpa using h0)]
  obtain⟨r1,e1,m1⟩:=Bq s hN c.2.2.1
  rw[e1,aD]
  cases r1 with
  |false=>exact⟨_,rfl⟩
  |
   true=>
   rw[aB (by decide)]
   obtain⟨r2,e2,m2⟩:=Bq s hN c.2.2.2.1
   rw[e2,aD,aD]
   cases r2 with
   |false=>exact⟨_,rfl⟩
   |
    true=>
    rw[aB (by decide),aC]
    dsimp only
    have a1:=m1 rfl
    have a2:=m2 rfl
    rw[aA a1.1,aA a1.2,aA a2.1,aA a2.2]
    have l1:=(hN _ (bE (t:=aU) (l:=s.2.2.1) a1.1 a1.2)).1
    have l2:=(hN _ (bE (t:=aU) (l:=s.2.2.1) a2.1 a2.2)).1
    generalize (nth aU s.2.2.1 c.2.2.1).2.2.2.2.1=l at l1 ⊢
    generalize (nth aU s.2.2.1 c.2.2.2.1).2.2.2.2.1=m at l2 ⊢
    have h8:∃r,aG (U:=Unit) (AT (Int.toNat (List.length c.2.2.2.2.1:Int)+1) (l,m,c.2.2.2.2.1,(List.length c.2.2.2.2.1:Int),(0:Int),List.replicate (Int.toNat (List.length l:Int)) false,List.replicate (Int.toNat (List.length m:Int)) false)) (fun _=>some true)=some r:=
     YY l m c.2.2.2.2.1 hc _ 0 _ _ (by omega) (by omega) (by rw[gn,dV]) (by rw[gn,dV])
    have key:∀v:Bool,∃r,aG (U:=ZG×ZG×wP) (if v=true then(cN (some false)) else(some (.aS (l,m,c)))) (fun u=>match u with|⟨c,d,e⟩=>if 0≤(List.length c:Int) then(if(List.length c:Int)≤(List.length c:Int) then(if(List.length c:Int)*(1:Int)≤(aF:Int) then(if 0≤(List.length d:Int) then(if(List.length d:Int)≤(List.length d:Int) then(if(List.length d:Int)*(1:Int)≤(aF:Int) then(aG (U:=Unit) (AT (Int.toNat (List.length e.2.2.2.2.1:Int)+1) (c,d,e.2.2.2.2.1,(List.length e.2.2.2.2.1:Int),(0:Int),List.replicate (Int.toNat (List.length c:Int)) false,List.replicate (Int.toNat (List.length d:Int)) false)) fun _=>some true) else none) else none) else none) else none) else none) else none)=some r:=fun v=>by
     cases v with
     |true=>exact⟨_,rfl⟩
     |
      false=>
      rw[aB (by decide),aC]
      dsimp only
      rw[dK _,aA (fQ _),aA (by omega),dK _,aA (fQ _),aA (by omega)]
      exact h8
    split
    ·exact key true
    ·exact key _
theorem HM(s:bF)(hN:NB s)(hs:SS s):∃r,f58 s=some r:=by
 have hB:=hB
 have hl:=hs.fX
 have key:∀(n i:Nat),s.2.2.2.2.1.length -i<n→i≤s.2.2.2.2.1.length→∃r,aG (U:=Unit) (Jl n (s.2.2.2.2.1,(s.2.2.2.2.1.length:Int),(i:Int),s)) (fun _=>some (0:Int))=some r:=by
  intro n
  induction n with
  |zero=>intro i h;omega
  |
   succ n ih=>
   intro i hn hi
   unfold Jl at ih ⊢
   rw[aK]
   generalize aL _ n=rec at ih ⊢
   dsimp only
   by_cases h:i<s.2.2.2.2.1.length
   ·obtain⟨r,hr⟩:=HL s hN s.2.2.2.2.1[i] (hs.mv _ (lD h))
    rw[cq (by omega),dK i,aA (show(i:Int)<(s.2.2.2.2.1.length:Int) by omega),cJ (t:=iU) h,bU (by omega),hr,aD]
    cases r with
    |false=>exact⟨_,rfl⟩
    |true=>rw[aB (by decide)];exact ih (i+1) (by omega) (by omega)
   ·rw[eF (by omega)]
    exact⟨_,rfl⟩
 exact key _ 0 (by omega) (by omega)
theorem Lz(l:Zs)(hl:l.length≤aF):∃M b,VR l.length M∧Dp l=some (some M,b):=ph .str Sj (fun x=>x) (fun _=>rfl) l hl
theorem HN(l:Zw)(hl:l.length≤aF):∃M b,VR l.length M∧Dq l=some (some M,b):=ph bB Sm (fun x=>x.1) (fun _=>rfl) l hl
theorem CV(l:Zn)(hl:l.length≤aF):∃M b,VR l.length M∧Dr l=some (some M,b):=ph aU Sp (fun x=>x.1) (fun _=>rfl) l hl
theorem Ba(l:Zz)(hl:l.length≤aF):∃M b,VR l.length M∧Ds l=some (some M,b):=ph fv Ss (fun x=>x.1) (fun _=>rfl) l hl
theorem EL(l:ZG)(hl:l.length≤aF):∃M b,VR l.length M∧Dt l=some (some M,b):=ph cS Sw (fun x=>x.1) (fun _=>rfl) l hl
theorem HO(l:ZB)(hl:l.length≤aF):∃M b,VR l.length M∧Du l=some (some M,b):=ph bG Sz (fun x=>x.1) (fun _=>rfl) l hl
theorem find_eq{n:Nat}(m:Za)(h:VR n (bA m))(k:Zf):lz m k=some (.inl ((),()))∨∃x,lz m k=some (.inr x)∧0≤x∧x<(n:Int):=by
 unfold lz
 cases hk:ep .str k (bA m) with
 |false=>exact Or.inl (aA (by decide))
 |true=>exact Or.inr ⟨_,aB (by decide),h.get hk⟩
abbrev OM:=Za
theorem VX(s:bF)(i u m:OM)(l:Zn)(hl:l.length*96≤aF)(hf:∀x∈l,x.2.2.2.2.1.length≤aF):∀(n c:Nat)(g:Bool)(f:List OM),l.length -c<n→c≤l.length→f.length=c→(∀j(hj:j<f.length)(hj':j<l.length),VR l[j].2.2.2.2.1.length (bA f[j]))→
 ∃g' f',oq n (g,l,(l.length:Int),(c:Int),s,i,u,m,f)=some (.aS (g',s,i,u,m,f'))∧f'.length=l.length∧∀j(hj:j<f'.length)(hj':j<l.length),VR l[j].2.2.2.2.1.length (bA f'[j]):=by
 intro n
 have hB:=hB
 induction n with
 |zero=>intro c g f h;omega
 |
  succ n ih=>
  intro c g f hn hc hfl hv
  unfold oq at ih ⊢
  rw[aK]
  generalize aL _ n=rec at ih ⊢
  dsimp only
  by_cases h:c<l.length
  ·obtain⟨M,b,hM,e⟩:=EL l[c].2.2.2.2.1 (hf _ (lD h))
   rw[cq (by omega),dK c,aA (show(c:Int)<(l.length:Int) by omega),cJ (t:=aU) h,e,aD]
   dsimp only
   rw[aA (show(f.length+List.length [_])*8≤aF by rw[bD];omega),bU (by omega)]
   have key:∀v:Bool,∃g' f',rec (v,l,(l.length:Int),((c+1:Nat):Int),s,i,u,m,f++[some M])=some (.aS (g',s,i,u,m,f'))∧f'.length=l.length∧∀j(hj:j<f'.length)(hj':j<l.length),VR l[j].2.2.2.2.1.length (bA f'[j]):=fun v=>
    ih (
     c+1) v _ (by omega) (by omega) (by rw[cz,bD,hfl]) fun j hj hj'=>by
     by_cases ej:j<f.length
     ·rw[ze ej];exact hv j ej hj'
     ·have:j=c:=by rw[cz,bD] at hj;omega
      subst this
      rw[uP (by omega)]
      simp only[hfl,Nat.sub_self,List.getElem_singleton]
      exact hM
   split
   ·rw[aD];exact key true
   ·rw[aD];exact key b
  ·rw[eF (by omega)]
   exact⟨g,f,rfl,by omega,hv⟩
theorem VY(i u m:OM)(fs:List OM)(l:Zl)(hl:l.length≤aF)(hf:∀x∈l,x.2.2.1.length≤aF):∀(n c:Nat)(g:Bool),l.length -c<n→c≤l.length→
 ∃g',ot n (g,l,(l.length:Int),(c:Int),i,u,m,fs)=some (.aS (g',i,u,m,fs)):=by
 intro n
 have hB:=hB
 induction n with
 |zero=>intro c g h;omega
 |
  succ n ih=>
  intro c g hn hc
  unfold ot at ih ⊢
  rw[aK]
  generalize aL _ n=rec at ih ⊢
  dsimp only
  by_cases h:c<l.length
  ·obtain⟨M,b,_,e⟩:=HO l[c].2.2.1 (hf _ (lD h))
   rw[cq (by omega),dK c,aA (show(c:Int)<(l.length:Int) by omega),cJ (t:=bX) h,e,aD]
   dsimp only
   rw[bU (by omega)]
   split
   ·rw[aD];exact ih (c+1) true (by omega) (by omega)
   ·rw[aD];exact ih (c+1) b (by omega) (by omega)
  ·rw[eF (by omega)]
   exact⟨g,rfl⟩
theorem LA(s:bF)(hs:SS s)(h96:s.2.2.1.length*96≤aF):∃tw i u m fs,yq s=some (tw,i,u,m,fs)∧VR s.1.length (bA i)∧VR s.2.1.length (bA u)∧VR s.2.2.1.length (bA m)∧fs.length=s.2.2.1.length∧∀j(hj:j<fs.length)(hj':j<s.2.2.1.length),VR s.2.2.1[j].2.2.2.2.1.length (bA fs[j]):=by
 have hB:=hB
 obtain⟨M1,b1,v1,e1⟩:=Lz s.1 hs.kq
 obtain⟨M2,b2,v2,e2⟩:=HN s.2.1 hs.kM
 obtain⟨M3,b3,v3,e3⟩:=CV s.2.2.1 hs.dh
 obtain⟨M4,b4,_,e4⟩:=Ba s.2.2.2.2.2.1 hs.dX
 unfold yq
 rw[e1,aD]
 dsimp only
 rw[e2,aD]
 dsimp only
 have orT:∀(a b:Bool)(K:Bool→Option (Bool×OM×OM×OM×List OM))(P:Option (Bool×OM×OM×OM×List OM)→Prop),(∀v,P (K v))→P (Option.bind (α:=Bool) (if a=true then(some true) else(some b)) K):=fun a b K P h=>by
  cases a with
  |true=>exact h true
  |false=>exact h b
 refine orT _ _ _ (fun y=>∃tw i u m fs,y=some (tw,i,u,m,fs)∧VR s.1.length (bA i)∧VR s.2.1.length (bA u)∧VR s.2.2.1.length (bA m)∧fs.length=s.2.2.1.length∧∀j(hj:j<fs.length)(hj':j<s.2.2.1.length),VR s.2.2.1[j].2.2.2.2.1.length (bA fs[j])) fun w1=>?_
 rw[e3,aD]
 dsimp only
 refine orT _ _ _ (fun y=>∃tw i u m fs,y=some (tw,i,u,m,fs)∧VR s.1.length (bA i)∧VR s.2.1.length (bA u)∧VR s.2.2.1.length (bA m)∧fs.length=s.2.2.1.length∧∀j(hj:j<fs.length)(hj':j<s.2.2.1.length),VR s.2.2.1[j].2.2.2.2.1.length (bA fs[j])) fun w2=>?_
 rw[e4,aD]
 dsimp only
 refine orT _ _ _ (fun y=>∃tw i u m fs,y=some (tw,i,u,m,fs)∧VR s.1.length (bA i)∧VR s.2.1.length (bA u)∧VR s.2.2.1.length (bA m)∧fs.length=s.2.2.1.length∧∀j(hj:j<fs.length)(hj':j<s.2.2.1.length),VR s.2.2.1[j].2.2.2.2.1.length (bA fs[j])) fun w3=>?_
 obtain⟨g',f',e11,hl,hv⟩:=VX s (some M1) (some M2) (some M3) s.2.2.1 h96 (fun x hx=>(hs.fields x hx).1) (Int.toNat (List.length s.2.2.1:Int)+1) 0 w3 [] (by omega) (by omega) rfl (fun j hj=>by simp at hj)
 have e11':oq (Int.toNat (List.length s.2.2.1:Int)+1) (w3,s.2.2.1,(List.length s.2.2.1:Int),(0:Int),s,some M1,some M2,some M3,([]:List OM))=some (.aS (g',s,some M1,some M2,some M3,f')):=e11
 rw[e11',aC]
 dsimp only
 obtain⟨g2,e18⟩:=VY (some M1) (some M2) (some M3) f' s.2.2.2.1 hs.rules (fun x hx=>(hs.rl x hx).1) (Int.toNat (List.length s.2.2.2.1:Int)+1) 0 g' (by omega) (by omega)
 have e18':ot (Int.toNat (List.length s.2.2.2.1:Int)+1) (g',s.2.2.2.1,(List.length s.2.2.2.1:Int),(0:Int),some M1,some M2,some M3,f')=some (.aS (g2,some M1,some M2,some M3,f')):=e18
 rw[e18',aC]
 exact⟨g2,some M1,some M2,some M3,f',rfl,v1,v2,v3,hl,hv⟩
theorem tA{n:Nat}{m:OM}(h:VR n (bA m)){k:Zf}{R:Type}{kp:Unit×Unit→Option R}{kn:Int→Option R}{P:R→Prop}(h1:W (kp ((),())) P)(h2:∀x,0≤x→x<(n:Int)→W (kn x) P):W (gX (lz m k) kp kn) P:=by
 rcases find_eq m h k with e|⟨x,e,h0,hx⟩
 ·rw[e];exact h1
 ·rw[e];exact h2 x h0 hx
theorem qM(m:OM){k:Zf}{R:Type}{kp:Unit×Unit→Option R}{kn:Int→Option R}{P:R→Prop}(h1:W (kp ((),())) P)(h2:∀x,W (kn x) P):W (gX (lz m k) kp kn) P:=by
 unfold lz
 cases ep .str k (bA m) with
 |false=>exact h1
 |true=>exact h2 _
theorem LB(i u m:OM)(l:Zw)(fs:List OM)(hl:l.length≤aF)(hv:VR l.length (bA u)):W (yr i u m l fs) (ST (fun _=>True) fun r=>∃l',r=(i,u,m,l',fs)):=by
 have hB:=hB
 unfold yr
 refine aZ.2 (W.ct (bW (L:=zY) rfl (CT (fun d=>∃l',d=(i,u,m,l',fs)) fun r=>r= .inl ((),())) l.length (fun c(s:Zw)=>((l.length:Int),(c:Int),i,u,m,s,fs)) (fun _ s=>s.length=l.length) ?step ?stop _ 0 l (by omega) (by omega) rfl) (fun d ⟨l',h⟩=>?_) fun r h=>?_)
 case step=>
  intro rec c s hc hI k
  dsimp only
  rw[cq (by omega),dK c,aA (show(c:Int)<(s.length:Int) by omega),bU (by omega)]
  split
  ·exact k _ (by rw[cP,cP];exact hI)
  ·refine tA hv ⟨_,rfl,rfl⟩ fun x h0 h1=>?_
   by_cases h:(c:Int)≤x
   ·rw[cq h];exact⟨_,rfl,rfl⟩
   ·rw[aB (show¬decide ((c:Int)≤x)=true by simpa using h),aC]
    dsimp only
    rw[aA h0,aA (show x<(s.length:Int) by omega)]
    generalize hL:List.set _ _ _=L
    have hL':L.length=l.length:=by rw[←hL,cP,cP];exact hI
    clear hL
    rw[aC]
    dsimp only
    have hx:x<(L.length:Int):=by omega
    rw[aA h0,aA hx]
    refine W.bt ?_ fun v=>?_
    ·repeat' (first|exact⟨_,rfl⟩|split)
    ·split
     ·rw[bU (by omega)]
      exact k _ (by rw[cP];exact hL')
     ·rw[bU (by omega)]
      exact k _ hL'
 case stop=>
  intro rec s hI
  dsimp only
  rw[eF (by omega)]
  exact⟨_,rfl,s,rfl⟩
 ·subst h;exact⟨_,rfl,l',rfl⟩
 ·subst h;exact trivial
def VZ(x:qd):Prop:=x.2.2.2.2.1.length*120≤aF∧x.2.2.2.2.2.1.length*72≤aF∧∀d∈x.2.2.2.2.2.1,d.1.length*16≤aF
theorem HP(t i u m:OM)(l:Zn)(k:Nat)(a:qd)(fs:List OM)(hb:VZ a):W (yu t i u m l k a fs) (ST (fun _=>True) fun r=>∃x1 x2 x3 x4 x5 x6 x7,r=(i,u,m,l,k,x1,x2,x3,x4,x5,fs,x6,x7)):=by
 have hB:=hB
 unfold yu
 refine qM i ⟨_,rfl,trivial⟩ fun y1=>?_
 have e1:DD a.2.2.2.2.1=some a.2.2.2.2.1:=ma _ _ hb.1
 rw[e1,aD]
 have l1:a.2.2.2.2.1.length≤aF:=by have:=hb.1;omega
 refine aZ.2 (W.ct (bW (L:=zZ) rfl (CT (fun d=>∃s',d=(t,i,u,m,l,k,a.1,a.2.1,y1,a.2.2.2.1,a.2.2.2.2.2,fs,s')) fun r=>r= .inl ((),())) a.2.2.2.2.1.length (fun c(s:ZG)=>(t,(a.2.2.2.2.1.length:Int),(c:Int),i,u,m,l,k,a.1,a.2.1,y1,a.2.2.2.1,a.2.2.2.2.2,fs,s)) (fun _ s=>s.length=a.2.2.2.2.1.length) ?step ?stop _ 0 a.2.2.2.2.1 (by omega) (by omega) rfl) (fun d ⟨s',h⟩=>?_) fun r h=>?_)
 case step=>
  intro rec c s hc hI kk
  dsimp only
  have hw:=fF c (by omega)
  rw[cq (by omega),dK c,aA (show(c:Int)<(s.length:Int) by omega)]
  generalize hL:List.set _ _ _=L
  have hL':L.length=a.2.2.2.2.1.length:=by rw[←hL,cP];exact hI
  clear hL
  rw[aC]
  dsimp only
  refine W.bt ?_ fun v=>?_
  ·split<;>exact⟨_,rfl⟩
  ·split
   ·exact qM u ⟨_,rfl,rfl⟩ fun x=>(by rw[hw];exact kk _ (by rw[cP];exact hL'))
   ·rw[hw];exact kk _ hL'
 case stop=>
  intro rec s hI
  dsimp only
  rw[eF (by omega)]
  exact⟨_,rfl,s,rfl⟩
 ·subst h
  dsimp only
  have e2:DE a.2.2.2.2.2.1=some a.2.2.2.2.2.1:=ma _ _ hb.2.1
  rw[e2,aD]
  have l2:a.2.2.2.2.2.1.length≤aF:=by have:=hb.2.1;omega
  refine aZ.2 (W.ct (bW (L:=xy) rfl (CT (fun d=>∃z,d=(i,u,m,l,k,a.1,a.2.1,y1,a.2.2.2.1,a.2.2.2.2.2.2,fs,s',z)) fun r=>r= .inl ((),())) a.2.2.2.2.2.1.length (fun c(s:Ij)=>(t,(a.2.2.2.2.2.1.length:Int),(c:Int),i,u,m,l,k,a.1,a.2.1,y1,a.2.2.2.1,a.2.2.2.2.2.2,fs,s',s)) (fun _ s=>s.length=a.2.2.2.2.2.1.length∧∀d∈s,d.1.length*16≤aF) ?step ?stop _ 0 a.2.2.2.2.2.1 (by omega) (by omega) ⟨rfl,hb.2.2⟩) (fun d ⟨z,h⟩=>?_) fun r h=>?_)
  case step=>
   intro rec c s hc hI kk
   dsimp only
   have hcs:(c:Int)<(s.length:Int):=by have:=hI.1;omega
   have hn:(nth iJ s (c:Int)).1.length*16≤aF:=hI.2 _ (bE (t:=iJ) (cu c) hcs)
   have hw:=fF c (by omega)
   rw[cq (by omega),dK c,aA hcs]
   generalize nth iJ s (c:Int)=w at hn ⊢
   refine aZ.2 (aZ.2 (W.ct (bW (L:=xx) rfl (CT (fun d=>∃e,d=(t,(a.2.2.2.2.2.1.length:Int),(c:Int),i,u,m,l,k,a.1,a.2.1,y1,a.2.2.2.1,a.2.2.2.2.2.2,fs,s',s,Int.toNat (c:Int),w.1,w.2.1,w.2.2.2,e)) fun r=>r= .ret (.ret (.inl ((),())))) w.1.length (fun j(e:Zd)=>(t,(a.2.2.2.2.2.1.length:Int),(c:Int),w.1,(w.1.length:Int),(j:Int),i,u,m,l,k,a.1,a.2.1,y1,a.2.2.2.1,a.2.2.2.2.2.2,fs,s',s,Int.toNat (c:Int),w.1,w.2.1,w.2.2.2,e)) (fun j e=>e.length=j) ?step2 ?stop2 _ 0 [] (by omega) (by omega) rfl) (fun d ⟨e,h⟩=>?_) fun r h=>?_))
   case step2=>
    intro rec2 j e hj hI2 kk2
    dsimp only
    have hw2:=fF j (by omega)
    rw[cq (by omega),dK j,aA (show(j:Int)<(w.1.length:Int) by omega)]
    refine qM t ⟨_,rfl,rfl⟩ fun x=>?_
    rw[aA (show(e.length+List.length [_])*8≤aF by rw[bD];omega)]
    rw[hw2]
    exact kk2 _ (by rw[cz,bD,hI2])
   case stop2=>
    intro rec2 e hI2
    dsimp only
    rw[eF (by omega)]
    exact⟨_,rfl,e,rfl⟩
   ·subst h
    dsimp only
    refine qM t ⟨_,rfl,rfl⟩ fun x=>⟨_,rfl,?_⟩
    rw[kJ]
    dsimp only
    rw[hw]
    refine kk _ ⟨by rw[cP];exact hI.1,fun d hd=>?_⟩
    rcases uO hd with h|rfl
    ·exact hI.2 d h
    ·exact hn
   ·subst h;exact rfl
  case stop=>
   intro rec s hI
   dsimp only
   rw[eF (by omega)]
   exact⟨_,rfl,s,rfl⟩
  ·subst h
   exact⟨_,rfl,_,_,_,_,_,_,_,rfl⟩
  ·subst h;exact trivial
 ·subst h;exact trivial
def Sc(l:ZB):Zd:=l.map fun x=>x.2.2.1
theorem zd(l:ZB):(Sc l).length=l.length:=gv ..
theorem CW(l:ZB)(i:Nat)(v:Ih)(h:v.2.2.1=(l.getD i (Ty.aH bG)).2.2.1):Sc (l.set i v)=Sc l:=by
 unfold Sc
 rw[List.map_set]
 refine List.ext_getElem (by rw[cP]) fun j h1 h2=>?_
 rw[List.getElem_set]
 split
 ·rename_i e
  subst e
  rw[gv] at h2
  rw[h,List.getElem_map,uQ,rF h2,Option.getD_some]
 ·rfl
def VS(n K:Nat)(s:Zd):Prop:=n≤s.length∧∀j(h:j<s.length),j<n→0≤s[j]∧s[j]<(K:Int)
theorem VS.at'{n K:Nat}{l:ZB}(h:VS n K (Sc l)){x:Int}(h0:0≤x)(h1:x<(n:Int)):x<(l.length:Int)∧0≤(nth bG l x).2.2.1∧(nth bG l x).2.2.1<(K:Int):=by
 have hn:=h.1
 rw[zd] at hn
 have e:x=(x.toNat:Int):=by omega
 have hx:x.toNat<l.length:=by omega
 have hs:=h.2 x.toNat (by rw[zd];exact hx) (by omega)
 rw[e,cJ (t:=bG) hx]
 unfold Sc at hs
 rw[List.getElem_map] at hs
 exact⟨by omega,hs⟩
theorem j4{α:Type}{l:List α}{i:Nat}{v d:α}(h:i<l.length):(l.set i v).getD i d=v:=by
 rw[uQ,rF (by rw[cP];exact h),Option.getD_some,List.getElem_set_self]
theorem V0(a0:Nat)(a1:ZB)(a2:Zx)(i u m:OM)(a6:Zl)(a7:Nat)(a8:Zf)(a9:Int)(a10:ZE×ZF×Unit)(fs:List OM)(n:Nat)(h0:a0<a1.length)(hv:VR n a2)(hs:VS n fs.length (Sc a1)):
 W (yv a0 a1 a2 i u m a6 a7 a8 a9 a10 fs) (ST (fun _=>True) fun r=>∃a1',r=(a1',a2,i,u,m,a6,a7,a8,a9,a10,fs)∧Sc a1'=Sc a1):=by
 unfold yv
 generalize hL:List.set (List.set a1 _ _) _ _=L
 have hL':Sc L=Sc a1:=by
  rw[←hL,CW _ _ _ (by rfl),CW _ _ _ (by rfl)]
 have hLl:a0<L.length:=by rw[←hL,cP,cP];exact h0
 clear hL
 rw[aC]
 dsimp only
 split
 ·refine aZ.2 (tA (m:=some a2) hv ⟨_,rfl,trivial⟩ fun x hx0 hx1=>⟨_,rfl,?_⟩)
  rw[kJ]
  generalize hM:List.set _ _ _=M
  have hg:(List.getD M a0 (Ty.aH bG)).2.2.2.1.2.2.1=x:=by rw[←hM,j4 hLl]
  have hM':Sc M=Sc a1:=by rw[←hM,CW _ _ _ (by rfl)];exact hL'
  clear hM
  dsimp only
  rw[←hM'] at hs
  obtain⟨q1,q2,q3⟩:=hs.at' hx0 hx1
  rw[hg,aA hx0,aA q1,aA q2,aA q3]
  refine qM _ ⟨_,rfl,trivial⟩ fun y=>⟨_,rfl,_,rfl,?_⟩
  rw[CW _ _ _ (by rfl)];exact hM'
 ·exact⟨_,rfl,_,rfl,hL'⟩
theorem V1(a0:Nat)(a1:ZE)(a2:Zx)(i u m:OM)(a6:Zl)(a7:Nat)(a8:Zf)(a9:Int)(a10:ZF×Unit)(fs:List OM)(a12:ZB)(n:Nat)(h0:a0<a1.length)(hv:VR n a2)(hs:VS n fs.length (Sc a12)):
 W (yw a0 a1 a2 i u m a6 a7 a8 a9 a10 fs a12) (ST (fun _=>True) fun r=>∃a1',r=(a1',a2,i,u,m,a6,a7,a8,a9,a10,fs,a12)∧a1'.length=a1.length):=by
 unfold yw
 generalize hL:List.set (List.set a1 _ _) _ _=L
 have hL':L.length=a1.length:=by rw[←hL,cP,cP]
 clear hL
 rw[aC]
 dsimp only
 split
 ·refine aZ.2 (tA (m:=some a2) hv ⟨_,rfl,trivial⟩ fun x hx0 hx1=>⟨_,rfl,?_⟩)
  rw[kJ]
  generalize hM:List.set _ _ _=M
  have hg:(List.getD M a0 (Ty.aH cH)).2.1.2.2.1=x:=by rw[←hM,j4 (by omega)]
  have hM':M.length=a1.length:=by rw[←hM,cP];exact hL'
  clear hM
  dsimp only
  obtain⟨q1,q2,q3⟩:=hs.at' hx0 hx1
  rw[hg,aA hx0,aA q1,aA q2,aA q3]
  refine qM _ ⟨_,rfl,trivial⟩ fun y=>⟨_,rfl,_,rfl,?_⟩
  rw[cP];exact hM'
 ·exact⟨_,rfl,_,rfl,hL'⟩
theorem V2(a0:Nat)(a1:ZE)(a2:Zx)(i u m:OM)(a6:Zl)(a7:Nat)(a8:Zf)(a9:Int)(a10:ZF×Unit)(fs:List OM)(a12:ZB)(n:Nat)(h0:a0<a1.length)(hv:VR n a2)(hs:VS n fs.length (Sc a12)):
 W (yJ a0 a1 a2 i u m a6 a7 a8 a9 a10 fs a12) (ST (fun _=>True) fun r=>∃a1',r=(a1',a2,i,u,m,a6,a7,a8,a9,a10,fs,a12)∧a1'.length=a1.length):=by
 unfold yJ
 generalize hL:List.set (List.set a1 _ _) _ _=L
 have hL':L.length=a1.length:=by rw[←hL,cP,cP]
 clear hL
 rw[aC]
 dsimp only
 split
 ·refine aZ.2 (tA (m:=some a2) hv ⟨_,rfl,trivial⟩ fun x hx0 hx1=>⟨_,rfl,?_⟩)
  rw[kJ]
  generalize hM:List.set _ _ _=M
  have hg:(List.getD M a0 (Ty.aH cH)).2.2.1.2.2.1=x:=by rw[←hM,j4 (by omega)]
  have hM':M.length=a1.length:=by rw[←hM,cP];exact hL'
  clear hM
  dsimp only
  obtain⟨q1,q2,q3⟩:=hs.at' hx0 hx1
  rw[hg,aA hx0,aA q1,aA q2,aA q3]
  refine qM _ ⟨_,rfl,trivial⟩ fun y=>⟨_,rfl,_,rfl,?_⟩
  rw[cP];exact hM'
 ·exact⟨_,rfl,_,rfl,hL'⟩
theorem V3(a0:Nat)(a1:ZF)(a2:Zx)(i u m:OM)(a6:Zl)(a7:Nat)(a8:Zf)(a9:Int)(a10:Unit)(fs:List OM)(a12:ZB)(a13:ZE)(n:Nat)(h0:a0<a1.length)(hv:VR n a2)(hs:VS n fs.length (Sc a12)):
 W (yL a0 a1 a2 i u m a6 a7 a8 a9 a10 fs a12 a13) (ST (fun _=>True) fun r=>∃a1',r=(a1',a2,i,u,m,a6,a7,a8,a9,a10,fs,a12,a13)∧a1'.length=a1.length):=by
 unfold yL
 generalize hL:List.set (List.set a1 _ _) _ _=L
 have hL':L.length=a1.length:=by rw[←hL,cP,cP]
 clear hL
 rw[aC]
 dsimp only
 split
 ·refine aZ.2 (tA (m:=some a2) hv ⟨_,rfl,trivial⟩ fun x hx0 hx1=>⟨_,rfl,?_⟩)
  rw[kJ]
  generalize hM:List.set _ _ _=M
  have hg:(List.getD M a0 (Ty.aH dF)).2.2.1.2.2.1=x:=by rw[←hM,j4 (by omega)]
  have hM':M.length=a1.length:=by rw[←hM,cP];exact hL'
  clear hM
  dsimp only
  obtain⟨q1,q2,q3⟩:=hs.at' hx0 hx1
  rw[hg,aA hx0,aA q1,aA q2,aA q3]
  refine qM _ ⟨_,rfl,trivial⟩ fun y=>⟨_,rfl,_,rfl,?_⟩
  rw[cP];exact hM'
 ·exact⟨_,rfl,_,rfl,hL'⟩
def MM(x:eU):Prop:=x.2.2.1.length*96≤aF∧x.2.2.2.1.length*120≤aF∧x.2.2.2.2.1.length*80≤aF
theorem VS.agB{n K:Nat}{s:Zd}(h:VS n K s)(y:Int):VS n K (s.set n y):=by
 refine⟨by rw[cP];exact h.1,fun j hj hn=>?_⟩
 rw[cP] at hj
 rw[List.getElem_set_ne (by omega)]
 exact h.2 j hj hn
theorem VS.push{n K:Nat}{s:Zd}(h:VS n K s)(hn:n<s.length){y:Int}(h0:0≤y)(h1:y<(K:Int)):VS (n+1) K (s.set n y):=by
 refine⟨by rw[cP];exact hn,fun j hj hjn=>?_⟩
 rw[cP] at hj
 by_cases e:j=n
 ·subst e
  rw[List.getElem_set_self]
  exact⟨h0,h1⟩
 ·rw[List.getElem_set_ne (by omega)]
  exact h.2 j hj (by omega)
theorem VR.push{n:Nat}{M:Zx}(h:VR n M)(k:Zf):VR (n+1) (bK .str k (n:Int) M):=fun p hp=>by
 rcases dC (kt:=.str) hp with rfl|hp
 ·exact⟨cu n,by show(n:Int)<_;omega⟩
 ·have:=h p hp
  exact⟨this.1,by omega⟩
theorem Rx(l:ZB)(i:Nat)(v:Ih):Sc (l.set i v)=(Sc l).set i v.2.2.1:=List.map_set ..
theorem MN(i u m:OM)(l:Zl)(k:Nat)(a:eU)(fs:List OM)(hb:MM a)(hm:VR fs.length (bA m)):W (yM i u m l k a fs) (ST (fun _=>True) fun r=>∃x1 x2 x3 x4 x5 x6,r=(i,u,m,l,k,x1,x2,x3,fs,x4,x5,x6)):=by
 have hB:=hB
 unfold yM
 refine tA hm ⟨_,rfl,trivial⟩ fun y1 y0 yK=>?_
 have e1:DF a.2.2.1=some a.2.2.1:=ma _ _ hb.1
 rw[e1,aD]
 have l1:a.2.2.1.length≤aF:=by have:=hb.1;omega
 have l2:a.2.2.2.1.length≤aF:=by have:=hb.2.1;omega
 have l3:a.2.2.2.2.1.length≤aF:=by have:=hb.2.2;omega
 refine aZ.2 (W.ct (bW (L:=AW) rfl (CT (fun d=>∃s V,d=(i,u,m,l,k,a.1,y1,a.2.2.2,fs,s,V)∧s.length=a.2.2.1.length∧VR s.length V∧VS s.length fs.length (Sc s)) fun r=>r= .inl ((),())) a.2.2.1.length (fun c(s:ZB×Zx)=>((a.2.2.1.length:Int),(c:Int),i,u,m,l,k,a.1,y1,a.2.2.2,fs,s.1,s.2)) (fun c s=>s.1.length=a.2.2.1.length∧s.2.length≤c∧VR c s.2∧VS c fs.length (Sc s.1)) ?step ?stop _ 0 (a.2.2.1,[]) (by omega) (by omega) ⟨rfl,cV _,fun p hp=>(by cases hp),cX _,fun j hj hj0=>absurd hj0 (Nat.not_lt_zero _)⟩) (fun d ⟨s,V,h,hsl,hVR,hVS⟩=>?_) fun r h=>?_)
 case step=>
  rintro rec c ⟨s,V⟩ hc ⟨hsl,hVl,hVR,hVS⟩ kk
  dsimp only at hsl hVl hVR hVS ⊢
  have hw:=fF c (by omega)
  rw[cq (by omega),dK c,aA (show(c:Int)<(s.length:Int) by omega)]
  refine aZ.2 (tA hm ⟨_,rfl,rfl⟩ fun x x0 xK=>⟨_,rfl,?_⟩)
  rw[kJ]
  generalize hL:List.set _ _ _=L
  have hS:Sc L=(Sc s).set c x:=by rw[←hL,Rx,dV]
  have hLl:L.length=a.2.2.1.length:=by rw[←hL,cP];exact hsl
  clear hL
  dsimp only
  refine qK.2 ((V0 (Int.toNat (c:Int)) L V i u m l k a.1 y1 a.2.2.2 fs c (by rw[dV];omega) hVR (by rw[hS];exact hVS.agB x)).st (fun _ _=>⟨_,rfl,rfl⟩) fun r ⟨L',hr,hL'⟩=>?_)
  subst hr
  dsimp only
  rw[aA (show V.length+1≤aF by omega)]
  rw[hw]
  refine kk (L',bK .str (List.getD L' (Int.toNat (c:Int)) (Ty.aH bG)).1 (c:Int) V) ⟨?_,cW (dp (kt:=.str)) (by omega),VR.push (n:=c) hVR _,?_⟩
  ·have:=congrArg List.length hL'
   rw[zd,zd] at this
   exact this.trans hLl
  ·show VS (c+1) fs.length (Sc L')
   rw[hL',hS]
   exact hVS.push (by rw[zd];omega) x0 xK
 case stop=>
  rintro rec ⟨s,V⟩ ⟨hsl,hVl,hVR,hVS⟩
  dsimp only at hsl hVl hVR hVS ⊢
  rw[eF (by omega)]
  exact⟨_,rfl,s,V,rfl,hsl,hsl▸hVR,hsl▸hVS⟩
 ·subst h
  dsimp only
  have e2:DG a.2.2.2.1=some a.2.2.2.1:=ma _ _ hb.2.1
  rw[e2,aD]
  refine aZ.2 (W.ct (bW (L:=xI) rfl (CT (fun d=>∃w,d=(i,u,m,l,k,a.1,y1,a.2.2.2.2,fs,s,V,w)) fun r=>r= .inl ((),())) a.2.2.2.1.length (fun c(w:ZE)=>((a.2.2.2.1.length:Int),(c:Int),i,u,m,l,k,a.1,y1,a.2.2.2.2,fs,s,V,w)) (fun _ w=>w.length=a.2.2.2.1.length) ?step ?stop _ 0 a.2.2.2.1 (by omega) (by omega) rfl) (fun d ⟨w,h⟩=>?_) fun r h=>?_)
  case step=>
   intro rec c w hc hI kk
   dsimp only
   have hw:=fF c (by omega)
   rw[cq (by omega),dK c,aA (show(c:Int)<(w.length:Int) by omega)]
   refine qK.2 ((V1 (Int.toNat (c:Int)) w V i u m l k a.1 y1 a.2.2.2.2 fs s s.length (by rw[dV];omega) hVR hVS).st (fun _ _=>⟨_,rfl,rfl⟩) fun r ⟨w',hr,hw'⟩=>?_)
   subst hr
   dsimp only
   rw[dK c,aA (show(c:Int)<(w'.length:Int) by omega)]
   refine qK.2 ((V2 (Int.toNat (c:Int)) w' V i u m l k a.1 y1 a.2.2.2.2 fs s s.length (by rw[dV];omega) hVR hVS).st (fun _ _=>⟨_,rfl,rfl⟩) fun r ⟨w2,hr,hw2⟩=>?_)
   subst hr
   rw[hw]
   exact kk w2 (hw2.trans (hw'.trans hI))
  case stop=>
   intro rec w hI
   dsimp only
   rw[eF (by omega)]
   exact⟨_,rfl,w,rfl⟩
  ·subst h
   dsimp only
   have e3:Er a.2.2.2.2.1=some a.2.2.2.2.1:=ma _ _ hb.2.2
   rw[e3,aD]
   refine aZ.2 (W.ct (bW (L:=xJ) rfl (CT (fun d=>∃z,d=(i,u,m,l,k,a.1,y1,(),fs,s,w,z)) fun r=>r= .inl ((),())) a.2.2.2.2.1.length (fun c(z:ZF)=>((a.2.2.2.2.1.length:Int),(c:Int),i,u,m,l,k,a.1,y1,a.2.2.2.2.2,fs,s,V,w,z)) (fun _ z=>z.length=a.2.2.2.2.1.length) ?step ?stop _ 0 a.2.2.2.2.1 (by omega) (by omega) rfl) (fun d ⟨z,h⟩=>?_) fun r h=>?_)
   case step=>
    intro rec c z hc hI kk
    dsimp only
    have hz:(c:Int)<(z.length:Int):=by omega
    have hw:=fF c (by omega)
    rw[cq (by omega),aA y0,aA yK,dK c,aA hz]
    refine qM _ ⟨_,rfl,rfl⟩ fun x=>?_
    rw[dK c,aA hz]
    generalize hZ:List.set z _ _=Z
    have hZl:Z.length=a.2.2.2.2.1.length:=by rw[←hZ,cP];exact hI
    clear hZ
    rw[dK c,aA (show(c:Int)<(Z.length:Int) by omega)]
    refine qK.2 ((V3 (Int.toNat (c:Int)) Z V i u m l k a.1 y1 a.2.2.2.2.2 fs s w s.length (by rw[dV];omega) hVR hVS).st (fun _ _=>⟨_,rfl,rfl⟩) fun r ⟨w2,hr,hw2⟩=>?_)
    subst hr
    rw[hw]
    exact kk w2 (hw2.trans hZl)
   case stop=>
    intro rec z hI
    dsimp only
    rw[eF (by omega)]
    exact⟨_,rfl,z,rfl⟩
   ·subst h
    exact⟨_,rfl,_,_,_,_,_,_,rfl⟩
   ·subst h;exact trivial
  ·subst h;exact trivial
 ·subst h;exact trivial
theorem EM(i u m:OM)(l:ZC)(k:Nat)(a:wP)(fs:List OM)(hb:a.2.2.2.2.1.length*56≤aF)(hm:VR fs.length (bA m)):W (yN i u m l k a fs) (ST (fun _=>True) fun r=>∃x1 x2 x3 x4 x5 x6,r=(i,u,m,l,k,x1,x2,x3,x4,x5,fs,x6)):=by
 have hB:=hB
 unfold yN
 refine tA hm ⟨_,rfl,trivial⟩ fun y1 y0 yK=>tA hm ⟨_,rfl,trivial⟩ fun y2 z0 zK=>?_
 have e1:Es a.2.2.2.2.1=some a.2.2.2.2.1:=ma _ _ hb
 rw[e1,aD]
 refine aZ.2 (W.ct (bW (L:=AX) rfl (CT (fun d=>∃s,d=(i,u,m,l,k,a.1,a.2.1,y1,y2,a.2.2.2.2.2,fs,s)) fun r=>r= .inl ((),())) a.2.2.2.2.1.length (fun c(s:Zw)=>((a.2.2.2.2.1.length:Int),(c:Int),i,u,m,l,k,a.1,a.2.1,y1,y2,a.2.2.2.2.2,fs,s)) (fun _ s=>s.length=a.2.2.2.2.1.length) ?step ?stop _ 0 a.2.2.2.2.1 (by omega) (by omega) rfl) (fun d ⟨w,h⟩=>?_) fun r h=>?_)
 case step=>
  intro rec c s hc hI kk
  dsimp only
  have hw:=fF c (by omega)
  rw[cq (by omega),dK c,aA (show(c:Int)<(s.length:Int) by omega),aA y0,aA yK]
  refine qM _ ?_ fun x=>?_
  ·rw[aA z0,aA zK];exact⟨_,rfl,rfl⟩
  ·rw[aA z0,aA zK]
   refine qM _ ⟨_,rfl,rfl⟩ fun y=>?_
   rw[hw]
   exact kk _ (by rw[cP,cP];exact hI)
 case stop=>
  intro rec s hI
  dsimp only
  rw[eF (by omega)]
  exact⟨_,rfl,s,rfl⟩
 ·subst h
  exact⟨_,rfl,_,_,_,_,_,_,rfl⟩
 ·subst h;exact trivial
theorem EN(i u m:OM)(l:Zz)(k:Nat)(a:tq)(fs:List OM)(hb:a.2.1.length*48≤aF)(hm:VR fs.length (bA m)):W (yO i u m l k a fs) (ST (fun _=>True) fun r=>∃x1 x2 x3,r=(i,u,m,l,k,x1,x2,fs,x3)):=by
 have hB:=hB
 unfold yO
 have e1:Et a.2.1=some a.2.1:=ma _ _ hb
 rw[e1,aD]
 refine aZ.2 (W.ct (bW (L:=AY) rfl (CT (fun d=>∃s,d=(i,u,m,l,k,a.1,a.2.2,fs,s)) fun r=>r= .inl ((),())) a.2.1.length (fun c(s:List np)=>((a.2.1.length:Int),(c:Int),i,u,m,l,k,a.1,a.2.2,fs,s)) (fun _ s=>s.length=a.2.1.length) ?step ?stop _ 0 a.2.1 (by omega) (by omega) rfl) (fun d ⟨w,h⟩=>?_) fun r h=>?_)
 case step=>
  intro rec c s hc hI kk
  dsimp only
  have hw:=fF c (by omega)
  rw[cq (by omega),dK c,aA (show(c:Int)<(s.length:Int) by omega)]
  refine aZ.2 (tA hm ⟨_,rfl,rfl⟩ fun x x0 xK=>⟨_,rfl,?_⟩)
  rw[kJ]
  generalize hM:List.set _ _ _=M
  have hg:(List.getD M (Int.toNat (c:Int)) (Ty.aH iK)).2.2.1=x:=by rw[←hM,j4 (by rw[dV];omega)]
  have hM':M.length=a.2.1.length:=by rw[←hM,cP];exact hI
  clear hM
  dsimp only
  rw[hg,aA x0,aA xK]
  refine qM _ ⟨_,rfl,rfl⟩ fun y=>?_
  rw[hw]
  exact kk _ (by rw[cP];exact hM')
 case stop=>
  intro rec s hI
  dsimp only
  rw[eF (by omega)]
  exact⟨_,rfl,s,rfl⟩
 ·subst h
  exact⟨_,rfl,_,_,_,rfl⟩
 ·subst h;exact trivial
structure BS(s:bF):Prop where
 kq:s.1.length*16≤aF
 kM:s.2.1.length*56≤aF
 dh:s.2.2.1.length*96≤aF
 rules:s.2.2.2.1.length*96≤aF
 fX:s.2.2.2.2.1.length*72≤aF
 dX:s.2.2.2.2.2.1.length*48≤aF
 CX:∀x∈s.2.2.1,VZ x
 rl:∀x∈s.2.2.2.1,MM x
 cv:∀x∈s.2.2.2.2.1,x.2.2.2.2.1.length*56≤aF
 pu:∀x∈s.2.2.2.2.2.1,x.2.1.length*48≤aF
def m9{α:Type}(P:α→Prop)(c:Nat)(l:List α):Prop:=∀j(h:j<l.length),c≤j→P l[j]
theorem m9.of{α:Type}{P:α→Prop}{l:List α}(h:∀x∈l,P x):m9 P 0 l:=fun _ hj _=>h _ (lD hj)
theorem m9.next{α:Type}{P:α→Prop}{c:Nat}{l:List α}(h:m9 P c l)(v:α):m9 P (c+1) (l.set (Int.toNat (c:Int)) v):=fun j hj hc=>by
 have hj':j<l.length:=by rw[cP] at hj;exact hj
 rw[List.getElem_set_ne (by rw[dV];omega)]
 exact h j hj' (by omega)
theorem m9.here{t:Ty}{P:t.den→Prop}{c:Nat}{l:List t.den}(h:m9 P c l)(hc:c<l.length):P (nth t l (c:Int)):=by
 rw[cJ (t:=t) hc]
 exact h c hc (cV _)
theorem EO(s:bF)(hs:SS s)(hb:BS s):W (f69 s) fun _=>True:=by
 have hB:=hB
 obtain⟨tw,i,u,m,fs,e,hi,hu,hm,hl,hf⟩:=LA s hs hb.dh
 unfold f69
 rw[e,aD]
 dsimp only
 split
 ·exact⟨_,rfl,trivial⟩
 ·have e1:Dv s.1=some s.1:=ma _ _ hb.kq
  have e2:Dw s.2.1=some s.2.1:=ma _ _ hb.kM
  have e3:Dx s.2.2.1=some s.2.2.1:=ma _ _ hb.dh
  have e4:Dy s.2.2.2.1=some s.2.2.2.1:=ma _ _ hb.rules
  have e5:Dz s.2.2.2.2.1=some s.2.2.2.2.1:=ma _ _ hb.fX
  have e6:DA s.2.2.2.2.2.1=some s.2.2.2.2.2.1:=ma _ _ hb.dX
  rw[e1,aD,e2,aD,e3,aD,e4,aD,e5,aD,e6,aD]
  have k3:=hs.dh
  have k4:=hs.rules
  have k5:=hs.fX
  have k6:=hs.dX
  have p3:=m9.of hb.CX
  have p4:=m9.of hb.rl
  have p5:=m9.of hb.cv
  have p6:=m9.of hb.pu
  have qu:=LB i u m s.2.1 fs hs.kM hu
  rw[←hl] at hm
  generalize s.1=v1 at*
  generalize s.2.1=v2 at*
  generalize s.2.2.1=v3 at*
  generalize s.2.2.2.1=v4 at*
  generalize s.2.2.2.2.1=v5 at*
  generalize s.2.2.2.2.2.1=v6 at*
  refine qK.2 (qu.st (fun _ _=>⟨_,rfl,trivial⟩) fun r ⟨us,hr⟩=>?_)
  subst hr
  dsimp only
  refine aZ.2 (W.ct (bW (L:=Pq) rfl (CT (fun d=>∃p,d=((0:Int),i,u,m,v1,us,p,v4,v5,v6,fs)) fun _=>True) v3.length (fun c(p:Zn)=>((v3.length:Int),(c:Int),(0:Int),i,u,m,v1,us,p,v4,v5,v6,fs)) (fun c p=>p.length=v3.length∧m9 VZ c p) ?step ?stop _ 0 v3 (by omega) (by omega) ⟨rfl,p3⟩) (fun d ⟨w3,h⟩=>?_) fun _ _=>trivial)
  case step=>
   rintro rec c p hc ⟨hp,hT⟩ kk
   dsimp only
   have hcp:c<p.length:=by omega
   have hw:=fF c (by omega)
   rw[cq (by omega),dK c,aA (show(c:Int)<(p.length:Int) by omega),dK c,aA rfl,dK c,aA (show(c:Int)<(fs.length:Int) by omega)]
   refine qK.2 ((HP _ i u m p _ _ fs (hT.here (t:=aU) hcp)).st (fun _ _=>⟨_,rfl,trivial⟩) fun r ⟨x1,x2,x3,x4,x5,x6,x7,hr⟩=>?_)
   subst hr
   rw[hw]
   exact kk _ ⟨by rw[cP];exact hp,hT.next _⟩
  case stop=>
   rintro rec p ⟨hp,hT⟩
   dsimp only
   rw[eF (by omega)]
   exact⟨_,rfl,p,rfl⟩
  subst h
  dsimp only
  refine aZ.2 (W.ct (bW (L:=Lg) rfl (CT (fun d=>∃p,d=((0:Int),i,u,m,v1,us,w3,p,v5,v6,fs)) fun _=>True) v4.length (fun c(p:Zl)=>((v4.length:Int),(c:Int),(0:Int),i,u,m,v1,us,w3,p,v5,v6,fs)) (fun c p=>p.length=v4.length∧m9 MM c p) ?step ?stop _ 0 v4 (by omega) (by omega) ⟨rfl,p4⟩) (fun d ⟨w4,h⟩=>?_) fun _ _=>trivial)
  case step=>
   rintro rec c p hc ⟨hp,hT⟩ kk
   dsimp only
   have hcp:c<p.length:=by omega
   have hw:=fF c (by omega)
   rw[cq (by omega),dK c,aA (show(c:Int)<(p.length:Int) by omega),dK c,aA rfl]
   refine qK.2 ((MN i u m p _ _ fs (hT.here (t:=bX) hcp) hm).st (fun _ _=>⟨_,rfl,trivial⟩) fun r ⟨x1,x2,x3,x4,x5,x6,hr⟩=>?_)
   subst hr
   rw[hw]
   exact kk _ ⟨by rw[cP];exact hp,hT.next _⟩
  case stop=>
   rintro rec p ⟨hp,hT⟩
   dsimp only
   rw[eF (by omega)]
   exact⟨_,rfl,p,rfl⟩
  subst h
  dsimp only
  refine aZ.2 (W.ct (bW (L:=Lh) rfl (CT (fun d=>∃p,d=((0:Int),i,u,m,v1,us,w3,w4,p,v6,fs)) fun _=>True) v5.length (fun c(p:ZC)=>((v5.length:Int),(c:Int),(0:Int),i,u,m,v1,us,w3,w4,p,v6,fs)) (fun c p=>p.length=v5.length∧m9 (fun x:wP=>x.2.2.2.2.1.length*56≤aF) c p) ?step ?stop _ 0 v5 (by omega) (by omega) ⟨rfl,p5⟩) (fun d ⟨w5,h⟩=>?_) fun _ _=>trivial)
  case step=>
   rintro rec c p hc ⟨hp,hT⟩ kk
   dsimp only
   have hcp:c<p.length:=by omega
   have hw:=fF c (by omega)
   rw[cq (by omega),dK c,aA (show(c:Int)<(p.length:Int) by omega),dK c,aA rfl]
   refine qK.2 ((EM i u m p _ _ fs (hT.here (t:=iU) hcp) hm).st (fun _ _=>⟨_,rfl,trivial⟩) fun r ⟨x1,x2,x3,x4,x5,x6,hr⟩=>?_)
   subst hr
   rw[hw]
   exact kk _ ⟨by rw[cP];exact hp,hT.next _⟩
  case stop=>
   rintro rec p ⟨hp,hT⟩
   dsimp only
   rw[eF (by omega)]
   exact⟨_,rfl,p,rfl⟩
  subst h
  dsimp only
  refine aZ.2 (W.ct (bW (L:=Li) rfl (CT (fun _=>True) fun _=>True) v6.length (fun c(p:Zz)=>((v6.length:Int),(c:Int),(0:Int),i,u,m,v1,us,w3,w4,w5,p,fs)) (fun c p=>p.length=v6.length∧m9 (fun x:tq=>x.2.1.length*48≤aF) c p) ?step ?stop _ 0 v6 (by omega) (by omega) ⟨rfl,p6⟩) (fun d h=>?_) fun _ _=>trivial)
  case step=>
   rintro rec c p hc ⟨hp,hT⟩ kk
   dsimp only
   have hcp:c<p.length:=by omega
   have hw:=fF c (by omega)
   rw[cq (by omega),dK c,aA (show(c:Int)<(p.length:Int) by omega),dK c,aA rfl]
   refine qK.2 ((EN i u m p _ _ fs (hT.here (t:=fv) hcp) hm).st (fun _ _=>⟨_,rfl,trivial⟩) fun r ⟨x1,x2,x3,hr⟩=>?_)
   subst hr
   rw[hw]
   exact kk _ ⟨by rw[cP];exact hp,hT.next _⟩
  case stop=>
   rintro rec p ⟨hp,hT⟩
   dsimp only
   rw[eF (by omega)]
   exact⟨_,rfl,trivial⟩
  exact⟨_,rfl,trivial⟩
theorem CY(s:bF)(hs:SS s)(hb:BS s):∃r,f54 s=some r:=by
 obtain⟨⟨a,b⟩,e,_⟩:=EO s hs hb
 unfold f54
 rw[e,aD]
 dsimp only
 obtain⟨q,hq⟩:=EK a s hs
 rw[hq,aD]
 repeat' (first|exact⟨_,rfl⟩|split)
structure SA(s:bF):Prop where
 ss:SS s
 bs:BS s
 sw:SW s
structure CG(s:bF)(l:Zd):Prop where
 tg:TG s
 rk:wu s l
 sw:SW s
theorem MO(s:bF)(hs:SA s):∃r,f30 s=some r∧(r.1=0→r.2.1=s∧CG s r.2.2.1):=by
 have no:∀(x:Int)(y:GH),(!decide (x=(0:Int)))=true→∃r,some (x,y)=some r∧(r.1=0→r.2.1=s∧CG s r.2.2.1):=fun x y hx=>⟨_,rfl,fun h=>by
  have:x=0:=h
  subst this
  cases hx⟩
 unfold f30
 obtain⟨r1,e1⟩:=CY s hs.ss hs.bs
 obtain⟨r2,e2,_⟩:=Bp s hs.sw
 obtain⟨r3,e3⟩:=zb s hs.ss
 obtain⟨r4,e4,m4⟩:=HK s hs.sw
 obtain⟨r5,e5⟩:=HM s hs.sw.nb hs.ss
 rw[e1,aD]
 by_cases h1:(!decide (r1=(0:Int)))=true
 ·rw[aA h1];exact no _ _ h1
 ·rw[aB h1,e2,aD]
  by_cases h2:(!decide (r2=(0:Int)))=true
  ·rw[aA h2];exact no _ _ h2
  ·rw[aB h2,e3,aD]
   by_cases h3:(!decide (r3=(0:Int)))=true
   ·rw[aA h3];exact no _ _ h3
   ·rw[aB h3,e4,aD]
    by_cases h4:(!decide (r4=(0:Int)))=true
    ·rw[aA h4];exact no _ _ h4
    ·rw[aB h4,e5,aD]
     by_cases h5:(!decide (r5=(0:Int)))=true
     ·rw[aA h5];exact no _ _ h5
     ·rw[aB h5,aC]
      obtain⟨hT,l,ho,hR⟩:=m4 (by simpa using h4)
      rw[ho,aD]
      exact⟨_,rfl,fun _=>⟨rfl,hT,hR,hs.sw⟩⟩
theorem uN(g:GH)(hs:SA g.1):∃r,vT g=some r∧(r=0→∃l,CG g.1 l):=by
 obtain⟨⟨r,b⟩,e,hm⟩:=MO g.1 hs
 unfold vT
 rw[e,aD]
 dsimp only
 by_cases h:r=0
 ·subst h
  obtain⟨hb,hc⟩:=hm rfl
  have yes:∀y:Dm,(∃z,y=some z)→∃r,y=some r∧(r=0→∃l,CG g.1 l):=fun y ⟨z,hz⟩=>⟨z,hz,fun _=>⟨_,hc⟩⟩
  apply yes
  obtain⟨q,hq⟩:=EK b.1 g.1 hs.ss
  obtain⟨q2,hq2⟩:∃r,f61 b.2.1 g.2.1=some r:=PG (.int .i64) (fun a b=>decide (a=b)) _ _ fun _=>cW hc.rk.len (by have:=hc.tg.many;have:=hB;omega)
  unfold f31
  rw[hq]
  cases q<;>cases q2<;>simp only[aD,hq2]<;>simp
 ·refine⟨160,?_,fun h'=>(by cases h')⟩
  rw[aA (by simp[h])]
  rfl
end Go.Proofs.YtkhfnbfpgcjllaaGreatDoor
