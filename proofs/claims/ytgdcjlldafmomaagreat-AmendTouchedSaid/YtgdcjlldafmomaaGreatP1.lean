/- part -/
import Derived.Test.YtgdcjlldafmomaaGreatUO
import Derived.Test.YtgdcjlldafmomaaGreatA5
import Derived.Test.YtgdcjlldafmomaaGreatF7
noncomputable section
namespace Go.Proofs.YtgdcjlldafmomaaGreat
open Go.Ax
theorem hB:aE=140737488355328:=rfl
theorem xY{l:Ze}{i j:Nat}(hi:i<l.length)(hj:j<l.length):kZ (i:Int) (j:Int) l=some (decide (l[i]<l[j]),l):=by
 have h1:(i:Int)<(l.length:Int):=by omega
 have h2:(j:Int)<(l.length:Int):=by omega
 simp only[kZ,dD,h1,h2,bH,cT (t:=.int .i64) hi,cT (t:=.int .i64) hj]
theorem swap_eq{l:Ze}{i j:Nat}(hi:i<l.length)(hj:j<l.length):∃l',jW (i:Int) (j:Int) l=some l'∧l'.Perm l:=by
 have h1:(i:Int)<(l.length:Int):=by omega
 have h2:(j:Int)<(l.length:Int):=by omega
 refine⟨(l.set i l[j]).set j l[i],?_,List.set_set_perm hi hj⟩
 simp only[jW,dD,h1,h2,bQ,bH,cT (t:=.int .i64) hi,cT (t:=.int .i64) hj,dO]
theorem upL:∀(n c:Nat)(d:Ze),c<n→c<d.length→d.length≤aE→W (nP n ((c:Int),d)) (CT (fun d'=>d'.Perm d) fun _=>False):=by
 intro n
 induction n with
 |zero=>intro c d h;omega
 |
  succ n ih=>
  intro c d hn hc hb
  unfold nP at ih ⊢
  rw[aM]
  generalize aK _ n=rec at ih ⊢
  have hB:=hB
  dsimp only
  cases c with
  |
   zero=>
   rw[aA (by decide)]
   exact pX.2 (ir.2 (List.Perm.refl _))
  |
   succ c=>
   have e1:aZ (((c+1:Nat):Int) -1)=(c:Int):=by rw[fA (by omega) (by omega)];omega
   have e2:aZ (Int.tdiv (c:Int) 2)=((c / 2:Nat):Int):=by
    have:Int.tdiv (c:Int) 2=((c / 2:Nat):Int):=rfl
    rw[this,fA (by omega) (by omega)]
   rw[e1,e2,aC (by rw[mW];omega),xY hc (by omega),aJ]
   dsimp only
   by_cases hl:d[c+1]<d[c / 2]
   ·rw[aC (by simp[hl])]
    obtain⟨l',e,p⟩:=swap_eq (l:=d) (i:=c / 2) (j:=c+1) (by omega) hc
    rw[e,aJ]
    exact(ih (c / 2) l' (by omega) (by rw[p.length_eq];omega) (by rw[p.length_eq];exact hb)).ct (fun _ h=>h.trans p) fun _ h=>h
   ·rw[aA (by simp[hl])]
    exact pX.2 (ir.2 (List.Perm.refl _))
theorem DD{a:Int}{l:Ze}(h:(l.length+1)*8≤aE):∃q,pd a l=some q∧q.Perm (a::l):=by
 have hB:=hB
 have e1:xX a l=some (l++[a]):=aA h
 have e2:pb (l++[a])=some (((l++[a]).length:Int),l++[a]):=rfl
 have hl:(l++[a]).length=l.length+1:=by rw[dZ];rfl
 have e3:aZ (((l++[a]).length:Int) -1)=(l.length:Int):=by rw[hl,fA (by omega) (by omega)];omega
 obtain⟨o,ho,hp⟩:=upL gD l.length (l++[a]) (Bx (by omega)) (by omega) (by omega)
 unfold pd
 rw[e1,aJ,e2,aJ]
 dsimp only
 rw[e3]
 unfold xW
 rw[ho]
 cases o with
 |brk d=>exact⟨d,rfl,(show d.Perm (l++[a]) from hp).trans (List.perm_append_singleton a l)⟩
 |ret r=>exact(show False from hp).elim
theorem Pz:∀(m:Nat)(q:Int)(o p:Nat)(r:Ze),o -p<m→p≤o→o≤r.length→r.length≤aE→
 W (k7 m (q,(o:Int),(p:Int),r)) (CT (fun u=>u.2.2.Perm r) fun _=>False):=by
 intro m
 induction m with
 |zero=>intro q o p r h;omega
 |
  succ m ih=>
  intro q o p r hm hpo hor hb
  unfold k7 at ih ⊢
  rw[aM]
  generalize aK _ m=rec at ih ⊢
  have hB:=hB
  dsimp only
  have e0:aZ ((2:Int)*(p:Int))=((2*p:Nat):Int):=by rw[fA (by omega) (by omega)];omega
  have e1:aZ (((2*p:Nat):Int)+1)=((2*p+1:Nat):Int):=by rw[fA (by omega) (by omega)];omega
  rw[e0,e1]
  by_cases h1:o≤2*p+1
  ·rw[aA (show decide ((o:Int)≤((2*p+1:Nat):Int))=true by simp only[mW];omega),aJ,aA rfl]
   exact pX.2 (ir.2 (List.Perm.refl _))
  ·rw[aC (show¬decide ((o:Int)≤((2*p+1:Nat):Int))=true by simp only[mW];omega),aJ,gu (by omega),aH]
   dsimp only
   have e2:aZ (((2*p+1:Nat):Int)+1)=((2*p+2:Nat):Int):=by rw[fA (by omega) (by omega)];omega
   rw[e2]
   have key:∀j:Nat,p<j→j<o→W (Option.bind (kZ (j:Int) (p:Int) r) fun⟨m',n⟩=>if(!m')=true then(some (.brk (q,(p:Int),n))) else(Option.bind (jW (p:Int) (j:Int) n) fun y9=>rec (q,(o:Int),(j:Int),y9))) (CT (fun u:Int×Int×Ze=>u.2.2.Perm r) fun _:Bool×Ze=>False):=by
    intro j hj1 hj2
    rw[xY (by omega) (by omega),aJ]
    dsimp only
    split
    ·exact pX.2 (ir.2 (List.Perm.refl _))
    ·obtain⟨l',e,pm⟩:=swap_eq (l:=r) (i:=p) (j:=j) (by omega) (by omega)
     rw[e,aJ]
     exact(ih q o j l' (by omega) (by omega) (by rw[pm.length_eq];omega) (by rw[pm.length_eq];exact hb)).ct (fun _ h=>h.trans pm) fun _ h=>h
   by_cases h2:2*p+2<o
   ·rw[aA (show decide (((2*p+2:Nat):Int)<(o:Int))=true by simp only[mW];omega),xY (by omega) (by omega),aJ]
    dsimp only
    split
    ·rw[aH];exact key _ (by omega) h2
    ·rw[aH];exact key _ (by omega) (by omega)
   ·rw[aC (show¬decide (((2*p+2:Nat):Int)<(o:Int))=true by simp only[mW];omega),aH]
    exact key _ (by omega) (by omega)
theorem MF{l:Ze}(hne:l≠[])(hb:l.length≤aE):∃x q,pg l=some (x,q)∧(x::q).Perm l:=by
 have hB:=hB
 have hpos:0<l.length:=List.length_pos_iff.2 hne
 obtain⟨n,hn⟩:∃n,l.length=n+1:=⟨l.length -1,by omega⟩
 have e2:pb l=some ((l.length:Int),l):=rfl
 have e3:aZ ((l.length:Int) -1)=(n:Int):=by rw[hn,fA (by omega) (by omega)];omega
 obtain⟨l',e4,p4⟩:=swap_eq (l:=l) (i:=0) (j:=n) (by omega) (by omega)
 have hl':l'.length=n+1:=by rw[p4.length_eq,hn]
 obtain⟨o,ho,hp⟩:=Pz gD 0 n 0 l' (Bx (by omega)) (by omega) (by omega) (by omega)
 cases o with
 |ret r=>exact(show False from hp).elim
 |
  brk d=>
  obtain⟨d1,d2,c⟩:=d
  have pc:c.Perm l':=hp
  have hc:c.length=n+1:=by rw[pc.length_eq,hl']
  have e5:sm 0 (n:Int) l'=some (decide (d1<d2),c):=by
   unfold sm
   have ho':k7 gD ((0:Int),(n:Int),0,l')=some (.brk (d1,d2,c)):=ho
   rw[ho',aH]
  have e6:sn c=some (c[n]'(by omega),c.take n):=by
   have h7:aZ ((c.length:Int) -1)=(n:Int):=by rw[hc,fA (by omega) (by omega)];omega
   have h8:(n:Int)<(c.length:Int):=by omega
   have h9:(n:Int)≤(c.length:Int):=by omega
   simp only[sn,h7,dD,h8,h9,bH,cT (t:=.int .i64) (show n<c.length by omega),dO,Nat.sub_zero]
  refine⟨c[n]'(by omega),c.take n,?_,?_⟩
  ·unfold pg
   rw[e2,aJ]
   dsimp only
   rw[e3]
   have e4':jW (0:Int) (n:Int) l=some l':=e4
   rw[e4',aJ,e5,aJ]
   dsimp only
   rw[e6,aJ]
  ·have h:c.take n++[c[n]'(by omega)]=c:=by
    have:=lh n c
    rw[jj (show n<c.length by omega),sG (by omega)] at this
    exact this
   have q:=List.perm_append_singleton (c[n]'(by omega)) (c.take n)
   rw[h] at q
   exact q.symm.trans (pc.trans p4)
theorem nv{α:Type}:∀{l:List α}{i:Nat}(h:i<l.length),(l[i]::l.eraseIdx i).Perm l
 |x::l,0,_=>List.Perm.refl _
 |
  x::l,i+1,h=>by
  have h':i<l.length:=by rw[dH] at h;omega
  exact(List.Perm.swap x l[i] _).trans ((nv h').cons x)
def nd(g:dR)(h:Int):Zm:=bM (bw (.int .i64) (.map (.int .i64) .bool) h (bM g.2.1))
def ks(g:dR)(h:Int):Ze:=(nd g h).map (·.1)
def jX(e:ZR)(k:Ze)(f:Int):ZR:=e.mapIdx fun j row=>if(j:Int)∈k then row++[f] else row
theorem kB(e:ZR)(k:Ze)(f:Int):(jX e k f).length=e.length:=by unfold jX;rw[List.length_mapIdx]
theorem Es(e:ZR)(f:Int):jX e [] f=e:=by
 refine List.ext_getElem (kB e [] f) fun j h1 h2=>?_
 simp only[jX,List.getElem_mapIdx,List.not_mem_nil,bY]
theorem z8{e:ZR}{k k':Ze}{f:Int}(h:∀x,x∈k↔x∈k'):jX e k f=jX e k' f:=by
 unfold jX
 congr 1
 funext j row
 simp only[h]
theorem Et{e:ZR}{k:Ze}{f:Int}{x:Nat}(hx:x<e.length)(hk:(x:Int)∉k):jX (e.set x (e.getD x []++[f])) k f=jX e ((x:Int)::k) f:=by
 refine List.ext_getElem (by rw[kB,kB,bQ]) fun j h1 h2=>?_
 have hj:j<e.length:=by rw[kB] at h2;exact h2
 simp only[jX,List.getElem_mapIdx,List.getElem_set,fe]
 by_cases hxj:x=j
 ·subst hxj
  rw[aC hk,aA rfl,aA (Or.inl rfl),oh,oe hx,Option.getD_some]
 ·have hne:¬((j:Int)=(x:Int)):=by omega
  simp only[aC hxj,hne,false_or]
theorem PA(f b c:Int)(d:dR):∀(n:Nat)(a:Zm)(e:ZR),a.length<n→(a.map (·.1)).Nodup→(∀x∈a.map (·.1),0≤x∧x<(e.length:Int))→(∀x:Nat,(x:Int)∈a.map (·.1)→((e.getD x []).length+1)*8≤aE)→
 xU n (f,b,c,d,e,a)=some (.brk (b,c,d,jX e (a.map (·.1)) f)):=by
 intro n
 induction n with
 |zero=>intro a e h;omega
 |
  succ n ih=>
  intro a e hn hd hr hs
  unfold xU at ih ⊢
  rw[aM]
  generalize aK _ n=rec at ih ⊢
  dsimp only
  cases hA:a with
  |
   nil=>
   rw[aA (show List.isEmpty ([]:Zm)=true from rfl)]
   simp only[List.map_nil,Es]
  |
   cons y l=>
   rw[←hA,aC (by rw[hA];simp)]
   refine IU (by rw[hA];simp) fun i hi=>?_
   have p:=nv hi
   have pm:=p.map (·.1)
   have hd':((a[i]::a.eraseIdx i).map (·.1)).Nodup:=pm.nodup_iff.2 hd
   rw[dC,mX] at hd'
   have hmem:a[i].1∈a.map (·.1):=List.mem_map_of_mem (jn hi)
   obtain⟨h0,h1⟩:=hr _ hmem
   obtain⟨x,hx⟩:∃x:Nat,a[i].1=(x:Int):=⟨a[i].1.toNat,by omega⟩
   have hxl:x<e.length:=by omega
   rw[hx] at h0 h1 hd' hmem ⊢
   have hs1:=hs x hmem
   have hsz:(List.length (List.getD e x [])+List.length [f])*8≤aE:=hs1
   simp only[h0,h1,bH,dO,aA hsz]
   rw[ih]
   ·rw[Et hxl hd'.1]
    refine congrArg (fun z=>some (cQ.brk (b,c,d,z))) (z8 fun z=>?_)
    have:=(pm.mem_iff (a:=z))
    rw[dC,hx] at this
    exact this
   ·have:=p.length_eq
    rw[dH] at this
    omega
   ·exact hd'.2
   ·intro z hz
    rw[bQ]
    exact hr z (pm.mem_iff.1 (by rw[dC];exact dT _ hz))
   ·intro z hz
    have hne:x≠z:=fun h=>hd'.1 (h▸hz)
    rw[oh,List.getElem?_set_ne hne,←oh]
    exact hs z (pm.mem_iff.1 (by rw[dC];exact dT _ hz))
structure GG(g:dR)(m:Nat):Prop where
 many:g.1=(m:Int)
 small:m≤1000000
 nodup:∀h,(ks g h).Nodup
 range:∀h x,x∈ks g h→0≤x∧x<(m:Int)
def us(g:dR)(m e:Nat):ZR:=(List.range m).map fun j:Nat=>((List.range e).filter fun h:Nat=>decide ((j:Int)∈ks g (h:Int))).map fun h:Nat=>(h:Int)
theorem ql(g:dR)(m e:Nat):(us g m e).length=m:=by simp[us]
theorem Kh(g:dR)(m e:Nat):jX (us g m e) (ks g (e:Int)) (e:Int)=us g m (e+1):=by
 refine List.ext_getElem (by rw[kB,ql,ql]) fun j h1 h2=>?_
 simp only[jX,us,List.getElem_mapIdx,List.getElem_map,List.getElem_range,List.range_succ,List.filter_append,qB,oi,List.filter_nil]
 by_cases h:(j:Int)∈ks g (e:Int)
 ·simp[h]
 ·simp[h]
theorem Ki(g:dR)(m:Nat):us g m 0=List.replicate m []:=by
 refine List.ext_getElem (by rw[ql,jJ]) fun j h1 h2=>?_
 simp[us]
theorem MG{g:dR}{m e x:Nat}:((us g m e).getD x []).length≤e:=by
 rw[oh]
 by_cases h:x<(us g m e).length
 ·rw[oe h,Option.getD_some]
  simp only[us,List.getElem_map,iO]
  exact cG (sE _ _) (by simp)
 ·rw[List.getElem?_eq_none (by omega)]
  simp
theorem PB{g:dR}{m:Nat}(hg:GG g m):∀(n e:Nat),m -e<n→e≤m→sk n ((m:Int),(e:Int),g,us g m e)=some (.brk (us g m m)):=by
 intro n
 have hB:=hB
 have hsm:=hg.small
 induction n with
 |zero=>intro e h;omega
 |
  succ n ih=>
  intro e hn he
  unfold sk at ih ⊢
  rw[aM]
  generalize aK _ n=rec at ih ⊢
  dsimp only
  by_cases h:e<m
  ·rw[aA (show decide ((e:Int)<(m:Int))=true by simp only[mW];omega)]
   have key:=PA (e:Int) (m:Int) (e:Int) g ((nd g (e:Int)).length+1) (nd g (e:Int)) (us g m e) (by omega) (hg.nodup _) (fun x hx=>by rw[ql];exact hg.range _ x hx) (fun x _=>by have:=MG (g:=g) (m:=m) (e:=e) (x:=x);omega)
   unfold nd at key
   rw[key,aH]
   dsimp only
   rw[show aZ ((e:Int)+1)=((e+1:Nat):Int) from bu (by omega),show jX (us g m e) ((bM (bw (.int .i64) (.map (.int .i64) .bool) (e:Int) (bM g.2.1))).map (·.1)) (e:Int)=us g m (e+1) from Kh g m e]
   exact ih (e+1) (by omega) (by omega)
  ·have:e=m:=by omega
   subst this
   rw[gu (by omega)]
theorem GD{g:dR}{m:Nat}(hg:GG g m):f148 g=some (us g m m):=by
 have hB:=hB
 have hsm:=hg.small
 unfold f148
 rw[hg.many,ei m,aA (kg _),aA (by omega),dO,←Ki g]
 have:=PB hg (m+1) 0 (by omega) (by omega)
 have h0:sk (m+1) ((m:Int),0,g,us g m 0)=some (.brk (us g m m)):=this
 rw[h0,aH]
theorem fV:∀(m:Nat)(l:Ze),l.Nodup→(∀x∈l,0≤x∧x<(m:Int))→l.length≤m:=by
 intro m
 induction m with
 |
  zero=>
  intro l _ h
  cases l with
  |nil=>exact cL _
  |cons x l=>have:=h x (du ..);omega
 |
  succ m ih=>
  intro l hd h
  by_cases hm:(m:Int)∈l
  ·have h1:=ih (l.erase (m:Int)) (hd.erase _) fun x hx=>by
    have:=(hd.mem_erase_iff).1 hx
    have:=h x this.2
    omega
   have h2:=List.length_erase_of_mem hm
   have h3:=List.length_pos_of_mem hm
   omega
  ·have:=ih l hd fun x hx=>by
    have h1:=h x hx
    have:x≠(m:Int):=fun e=>hm (e▸hx)
    omega
   omega
def BR(g:dR)(out:Ze)(h:Int):Nat:=((ks g h).filter fun x=>decide (x∉out)).length
theorem DE(g:dR)(h:Int):BR g [] h=(ks g h).length:=by simp[BR]
theorem MH{g:dR}{m:Nat}(hg:GG g m)(out:Ze)(h:Int):BR g out h≤m:=
 cG (sE _ _) (fV m _ (hg.nodup h) (hg.range h))
theorem BT:∀(l:Ze)(out:Ze)(x:Int),l.Nodup→x∉out→
 (l.filter fun z=>decide (z∉out)).length=(l.filter fun z=>decide (z∉out++[x])).length+(if x∈l then 1 else 0):=by
 intro l
 induction l with
 |nil=>intro out x _ _;rfl
 |
  cons y l ih=>
  intro out x hd hx
  rw[mX] at hd
  have:=ih out x hd.2 hx
  by_cases hyx:y=x
  ·subst hyx
   rw[aC hd.1] at this
   rw[List.filter_cons_of_pos (by simpa using hx),List.filter_cons_of_neg (by simp),aA (du ..),dH,this]
  ·have hmem:(x∈y::l)=(x∈l):=by simp[Ne.symm hyx]
   simp only[hmem]
   by_cases hyo:y∈out
   ·rw[List.filter_cons_of_neg (by simp[hyo]),List.filter_cons_of_neg (by simp[hyo])]
    exact this
   ·rw[List.filter_cons_of_pos (by simp[hyo]),List.filter_cons_of_pos (by simp[hyo,hyx]),dH,dH,this]
    omega
theorem DF{g:dR}{m:Nat}(hg:GG g m){out:Ze}{x h:Int}(hx:x∉out):BR g out h=BR g (out++[x]) h+if x∈ks g h then 1 else 0:=
 BT _ _ _ (hg.nodup h) hx
abbrev Yc(y:YC):ZE:=fun d=>gi y d.1 d.2.1 d.2.2.1 d.2.2.2.1 d.2.2.2.2.1
theorem PC(y:YC)(x:Int)(acc:Ze)(h:(acc.length+1)*8≤aE):gi y x y 0 (y.gs 1) acc=some (true,y,0,y.gs 1,acc++[x]):=by
 unfold gi
 rw[eP]
 simp only[bH,dH,jK,dN,aA h,aJ,Nat.beq]
structure L3(g:dR)(m a:Nat)(c e:Ze):Prop where
 len:c.length=m
 num:∀h<a,c[h]? =some ((ks g (h:Int)).length:Int)
 nod:e.Nodup
 mem:∀x,x∈e↔∃h:Nat,h<a∧x=(h:Int)∧(ks g (h:Int)).length=0
theorem PD{g:dR}{m:Nat}(hg:GG g m)(U:ZR):∀(n a:Nat)(c e:Ze),m -a<n→a≤m→L3 g m a c e→
 ∃c' e',L3 g m m c' e'∧∀(y:YC)(k:Ze),eF y.l (Yc y) n (y.l,g,U,(m:Int),(a:Int),y,0,y.gs 1,k,c,e)=some (.brk (y.l,U,y,0,y.gs 1,k,c',e')):=by
 intro n
 have hB:=hB
 have hsm:=hg.small
 induction n with
 |zero=>intro a c e h;omega
 |
  succ n ih=>
  intro a c e hn ha hL
  have hstep:∀y k,eF y.l (Yc y) (n+1) (y.l,g,U,(m:Int),(a:Int),y,0,y.gs 1,k,c,e)=_:=fun y k=>by unfold eF;rw[aM]
  by_cases h:a<m
  ·have hl:a<c.length:=by rw[hL.len];exact h
   have d1:decide ((a:Int)<(m:Int))=true:=by simp only[mW];omega
   have d2:((a:Int)<(c.length:Int))=True:=by simp only[eq_iff_iff,iff_true];omega
   have e0:(List.length (bM (bw (.int .i64) (.map (.int .i64) .bool) (a:Int) (bM g.2.1))):Int)=((ks g (a:Int)).length:Int):=by simp[ks,nd]
   generalize hc2:c.set a ((ks g (a:Int)).length:Int)=c2
   have hc2l:c2.length=m:=by rw[←hc2,bQ,hL.len]
   have ac2:nth (.int .i64) c2 (a:Int)=((ks g (a:Int)).length:Int):=by
    rw[cT (t:=.int .i64) (show a<c2.length by omega)]
    subst hc2
    exact List.getElem_set_self ..
   have d3:((a:Int)<(c2.length:Int))=True:=by simp only[eq_iff_iff,iff_true];omega
   have hnum:∀z<a+1,c2[z]? =some ((ks g (z:Int)).length:Int):=by
    intro z hz
    subst hc2
    by_cases hza:z=a
    ·subst hza
     rw[List.getElem?_set_self hl]
    ·rw[List.getElem?_set_ne (Ne.symm hza)]
     exact hL.num z (by omega)
   have hw:aZ ((a:Int)+1)=((a+1:Nat):Int):=bu (by omega)
   by_cases hz:(ks g (a:Int)).length=0
   ·have hle:e.length≤m:=fV m e hL.nod fun x hx=>by
     obtain⟨h',h1,h2,_⟩:=(hL.mem x).1 hx
     omega
    obtain⟨e2,he2,p⟩:=DD (a:=(a:Int)) (l:=e) (by omega)
    have hna:(a:Int)∉e:=fun hm=>by
     obtain⟨h',h1,h2,_⟩:=(hL.mem _).1 hm
     omega
    obtain⟨c',e',hL',hf⟩:=ih (a+1) c2 e2 (by omega) (by omega) ⟨hc2l,hnum,p.nodup_iff.2 (List.nodup_cons.2 ⟨hna,hL.nod⟩),fun x=>by
     rw[p.mem_iff,fe,hL.mem]
     constructor
     ·rintro(rfl|⟨h',h1,h2,h3⟩)
      ·exact⟨a,by omega,rfl,hz⟩
      ·exact⟨h',by omega,h2,h3⟩
     ·rintro⟨h',h1,h2,h3⟩
      by_cases hh:h'=a
      ·subst hh;exact Or.inl h2
      ·exact Or.inr ⟨h',by omega,h2,h3⟩⟩
    refine⟨c',e',hL',fun y k=>?_⟩
    rw[hstep]
    have hf:=hf y k
    unfold eF at hf
    have d4:decide (((ks g (a:Int)).length:Int)=(0:Int))=true:=by rw[hz];rfl
    simp only[d1,dD,d2,e0,dO,hc2,d3,ac2,d4,bH,he2,aJ,hw]
    exact hf
   ·obtain⟨c',e',hL',hf⟩:=ih (a+1) c2 e (by omega) (by omega) ⟨hc2l,hnum,hL.nod,fun x=>by
     rw[hL.mem]
     constructor
     ·rintro⟨h',h1,h2,h3⟩
      exact⟨h',by omega,h2,h3⟩
     ·rintro⟨h',h1,h2,h3⟩
      by_cases hh:h'=a
      ·subst hh;exact absurd h3 hz
      ·exact⟨h',by omega,h2,h3⟩⟩
    refine⟨c',e',hL',fun y k=>?_⟩
    rw[hstep]
    have hf:=hf y k
    unfold eF at hf
    have d4:decide (((ks g (a:Int)).length:Int)=(0:Int))=false:=dz (by omega)
    simp only[d1,dD,d2,e0,dO,hc2,d3,ac2,d4,bH,cJ,bY,hw]
    exact hf
  ·have:a=m:=by omega
   subst this
   refine⟨c,e,hL,fun y k=>?_⟩
   rw[hstep]
   have d1:decide ((a:Int)<(a:Int))=false:=dz (by omega)
   simp only[d1,cJ,bY]
structure Yz(m:Nat)(row:Ze)(op0:Nat→Nat)(q0:Ze)(a:Nat)(d e:Ze):Prop where
 len:d.length=m
 num:∀h<m,d[h]? =some ((op0 h:Int) -if(h:Int)∈row.take a then 1 else 0)
 nod:e.Nodup
 mem:∀x,x∈e↔x∈q0∨∃h:Nat,x=(h:Int)∧(h:Int)∈row.take a∧op0 h=1
theorem MJ{g:dR}{m:Nat}(hg:GG g m)(U:ZR)(row:Ze)(op0:Nat→Nat)(q0:Ze)
 (hrd:row.Nodup) (hrr:∀x∈row,∃h:Nat,h<m∧x=(h:Int)∧1≤op0 h∧x∉q0) (hop:∀h,op0 h≤m) (hq:∀x∈q0,0≤x∧x<(m:Int)):
 ∀(n a:Nat)(d e:Ze),row.length -a<n→a≤row.length→Yz m row op0 q0 a d e→
 ∃d' e',Yz m row op0 q0 row.length d' e'∧∀(y:YC)(k:Ze),eC y.l (Yc y) n (y.l,U,row,(row.length:Int),(a:Int),y,0,y.gs 1,d,k,e)=some (.brk (y.l,U,y,0,y.gs 1,d',k,e')):=by
 intro n
 have hB:=hB
 have hsm:=hg.small
 have hrl:row.length≤m:=fV m row hrd fun x hx=>by obtain⟨h,h1,h2,_⟩:=hrr x hx;omega
 induction n with
 |zero=>intro a d e h;omega
 |
  succ n ih=>
  intro a d e hn ha hL
  have hstep:∀y k,eC y.l (Yc y) (n+1) (y.l,U,row,(row.length:Int),(a:Int),y,0,y.gs 1,d,k,e)=_:=fun y k=>by unfold eC;rw[aM]
  by_cases h:a<row.length
  ·have d2:((a:Int)<(row.length:Int))=True:=by simp only[eq_iff_iff,iff_true];omega
   obtain⟨u,hu,hru,hu1,huq⟩:=hrr row[a] (jn h)
   have hn1:nth (.int .i64) row (a:Int)=(u:Int):=by rw[cT (t:=.int .i64) h,hru]
   have hul:u<d.length:=by rw[hL.len];exact hu
   have hnt:(u:Int)∉row.take a:=fun hm=>by
    have h1:=lh a row
    rw[←h1,List.nodup_append] at hrd
    have h2:(u:Int)∈row.drop a:=by rw[jj h,hru];exact du ..
    exact hrd.2.2 _ hm _ h2 rfl
   have hdu:nth (.int .i64) d (u:Int)=(op0 u:Int):=by
    rw[cT (t:=.int .i64) hul]
    have:=hL.num u hu
    rw[oe hul,aC hnt,Int.sub_zero] at this
    exact kf this
   have hw1:aZ ((op0 u:Int) -1)=(op0 u:Int) -1:=fA (by omega) (by have:=hop u;omega)
   have d3:((u:Int)<(d.length:Int))=True:=by simp only[eq_iff_iff,iff_true];omega
   generalize hc2:d.set u ((op0 u:Int) -1)=d2'
   have hc2l:d2'.length=m:=by rw[←hc2,bQ,hL.len]
   have d4:((u:Int)<(d2'.length:Int))=True:=by simp only[eq_iff_iff,iff_true];omega
   have ac2:nth (.int .i64) d2' (u:Int)=(op0 u:Int) -1:=by
    rw[cT (t:=.int .i64) (show u<d2'.length by omega)]
    subst hc2
    exact List.getElem_set_self ..
   have htk:∀z:Int,z∈row.take (a+1)↔z∈row.take a∨z=(u:Int):=fun z=>by
    rw[List.take_succ_eq_append_getElem h,j4,lj,hru]
   have hnum:∀z<m,d2'[z]? =some ((op0 z:Int) -if(z:Int)∈row.take (a+1) then 1 else 0):=by
    intro z hz
    subst hc2
    by_cases hzu:z=u
    ·subst hzu
     rw[List.getElem?_set_self hul,aA ((htk _).2 (Or.inr rfl))]
    ·rw[List.getElem?_set_ne (Ne.symm hzu),hL.num z hz]
     have:((z:Int)∈row.take (a+1))=((z:Int)∈row.take a):=by
      rw[eq_iff_iff,htk]
      exact⟨fun h=>h.resolve_right (by omega),Or.inl⟩
     simp only[this]
   have hw:aZ ((a:Int)+1)=((a+1:Nat):Int):=bu (by omega)
   by_cases hz:op0 u=1
   ·have hna:(u:Int)∉e:=fun hm=>by
     rcases(hL.mem _).1 hm with h1|⟨h',h1,h2,_⟩
     ·exact huq (hru▸h1)
     ·have:h'=u:=by omega
      subst this;exact hnt h2
    have hle:e.length≤m:=fV m e hL.nod fun x hx=>by
     rcases(hL.mem x).1 hx with h1|⟨h',h1,h2,_⟩
     ·exact hq x h1
     ·obtain⟨h'',h3,h4,_⟩:=hrr _ (List.mem_of_mem_take h2)
      omega
    obtain⟨e2,he2,p⟩:=DD (a:=(u:Int)) (l:=e) (by omega)
    obtain⟨d',e',hL',hf⟩:=ih (a+1) d2' e2 (by omega) (by omega) ⟨hc2l,hnum,p.nodup_iff.2 (List.nodup_cons.2 ⟨hna,hL.nod⟩),fun x=>by
     rw[p.mem_iff,fe,hL.mem]
     constructor
     ·rintro(rfl|h1|⟨h',h1,h2,h3⟩)
      ·exact Or.inr ⟨u,rfl,(htk _).2 (Or.inr rfl),hz⟩
      ·exact Or.inl h1
      ·exact Or.inr ⟨h',h1,(htk _).2 (Or.inl h2),h3⟩
     ·rintro(h1|⟨h',h1,h2,h3⟩)
      ·exact Or.inr (Or.inl h1)
      ·rcases(htk _).1 h2 with h2|h2
       ·exact Or.inr (Or.inr ⟨h',h1,h2,h3⟩)
       ·exact Or.inl (h1.trans h2)⟩
    refine⟨d',e',hL',fun y k=>?_⟩
    rw[hstep]
    have hf:=hf y k
    unfold eC at hf
    have d5:decide ((op0 u:Int) -1=(0:Int))=true:=cu (by omega)
    simp only[dD,d2,hn1,hdu,hw1,d3,dO,hc2,d4,ac2,d5,bH,he2,aJ,hw]
    exact hf
   ·obtain⟨d',e',hL',hf⟩:=ih (a+1) d2' e (by omega) (by omega) ⟨hc2l,hnum,hL.nod,fun x=>by
     rw[hL.mem]
     constructor
     ·rintro(h1|⟨h',h1,h2,h3⟩)
      ·exact Or.inl h1
      ·exact Or.inr ⟨h',h1,(htk _).2 (Or.inl h2),h3⟩
     ·rintro(h1|⟨h',h1,h2,h3⟩)
      ·exact Or.inl h1
      ·rcases(htk _).1 h2 with h2|h2
       ·exact Or.inr ⟨h',h1,h2,h3⟩
       ·have:h'=u:=by omega
        subst this;exact absurd h3 hz⟩
    refine⟨d',e',hL',fun y k=>?_⟩
    rw[hstep]
    have hf:=hf y k
    unfold eC at hf
    have d5:decide ((op0 u:Int) -1=(0:Int))=false:=dz (by omega)
    simp only[dD,d2,hn1,hdu,hw1,d3,dO,hc2,d4,ac2,d5,bH,cJ,bY,hw]
    exact hf
  ·have:a=row.length:=by omega
   subst this
   refine⟨d,e,hL,fun y k=>?_⟩
   rw[hstep]
   have d1:decide ((row.length:Int)<(row.length:Int))=false:=dz (by omega)
   simp only[d1,cJ,bY]
structure KI(g:dR)(m:Nat)(q out op:Ze):Prop where
 len:op.length=m
 num:∀h<m,op[h]? =some (BR g out (h:Int):Int)
 nod:(q++out).Nodup
 yv:∀x∈q++out,0≤x∧x<(m:Int)
 zero:∀h:Nat,h<m→((h:Int)∈q++out↔BR g out (h:Int)=0)
 pre:∀i(hi:i<out.length),∀x∈ks g out[i],x∈out.take i
structure KO(g:dR)(m:Nat)(out:Ze):Prop where
 nod:out.Nodup
 yv:∀x∈out,0≤x∧x<(m:Int)
 pre:∀i(hi:i<out.length),∀x∈ks g out[i],x∈out.take i
theorem MK{g:dR}{m x:Nat}(hx:x<m):nth (.slice 8 (.int .i64)) (us g m m) (x:Int)=((List.range m).filter fun h:Nat=>decide ((x:Int)∈ks g (h:Int))).map fun h:Nat=>(h:Int):=by
 rw[cT (t:=.slice 8 (.int .i64)) (show x<(us g m m).length by rw[ql];exact hx)]
 simp only[us,List.getElem_map,List.getElem_range]
theorem PE{g:dR}{m:Nat}(hg:GG g m):∀(n:Nat)(q out op:Ze),m -out.length<n→KI g m q out op→
 ∃out',KO g m out'∧∀y:YC,eG y.l (Yc y) n (y.l,us g m m,y,0,y.gs 1,op,q,out)=some (.brk (y,0,y.gs 1,out')):=by
 intro n
 have hB:=hB
 have hsm:=hg.small
 induction n with
 |zero=>intro q out op h;omega
 |
  succ n ih=>
  intro q out op hn hK
  have hstep:∀y,eG y.l (Yc y) (n+1) (y.l,us g m m,y,0,y.gs 1,op,q,out)=_:=fun y=>by unfold eG;rw[aM]
  have hqn:q.Nodup:=(List.nodup_append.1 hK.nod).1
  have hon:out.Nodup:=(List.nodup_append.1 hK.nod).2.1
  have hdis:=(List.nodup_append.1 hK.nod).2.2
  have hor:∀x∈out,0≤x∧x<(m:Int):=fun x hx=>hK.yv x (mV _ hx)
  by_cases hq:q= []
  ·subst hq
   refine⟨out,⟨hon,hor,hK.pre⟩,fun y=>?_⟩
   rw[hstep]
   have e1:f150 []=some (0:Int):=rfl
   simp only[e1,aJ,show decide ((0:Int)<0)=false from rfl,cJ,bY]
  ·have hql:q.length≤m:=fV m q hqn fun x hx=>hK.yv x (iN _ hx)
   obtain⟨x0,q1,hpop,p⟩:=MF hq (by omega)
   have hxq:x0∈q:=p.mem_iff.1 (du ..)
   obtain⟨x,hx,rfl⟩:∃x:Nat,x<m∧x0=(x:Int):=by
    have:=hK.yv x0 (iN _ hxq)
    exact⟨x0.toNat,by omega,by omega⟩
   have hpn:=List.nodup_cons.1 (p.nodup_iff.2 hqn)
   have hxo:(x:Int)∉out:=fun h=>hdis _ hxq _ h rfl
   have hx0:BR g out (x:Int)=0:=(hK.zero x hx).1 (iN _ hxq)
   have hol:(out++[(x:Int)]).length≤m:=fV m _ (by
    rw[List.nodup_append]
    refine⟨hon,by simp,fun a ha b hb=>?_⟩
    rw[lj] at hb
    subst hb
    exact fun e=>hxo (e▸ha)) fun z hz=>by
    rcases List.mem_append.1 hz with h|h
    ·exact hor z h
    ·rw[lj] at h;omega
   rw[dZ,cM] at hol
   generalize hrow:(((List.range m).filter fun h:Nat=>decide ((x:Int)∈ks g (h:Int))).map fun h:Nat=>(h:Int))=row
   have hrm:∀h:Nat,(h:Int)∈row↔h<m∧(x:Int)∈ks g (h:Int):=fun h=>by
    rw[←hrow,List.mem_map]
    constructor
    ·rintro⟨h',h1,h2⟩
     have:h'=h:=by omega
     subst this
     have:=List.mem_filter.1 h1
     exact⟨List.mem_range.1 this.1,jL this.2⟩
    ·rintro⟨h1,h2⟩
     exact⟨h,List.mem_filter.2 ⟨List.mem_range.2 h1,cu h2⟩,rfl⟩
   have hrn:row.Nodup:=by
    rw[←hrow]
    refine List.Pairwise.map _ (fun a b hab=>?_) (List.nodup_range.filter _)
    exact fun e=>hab (by omega)
   have hc1:∀h:Nat,(x:Int)∈ks g (h:Int)→1≤BR g out (h:Int):=fun h hm=>by
    rw[DF hg hxo,aA hm];omega
   have hrr:∀z∈row,∃h:Nat,h<m∧z=(h:Int)∧1≤BR g out (h:Int)∧z∉q1:=fun z hz=>by
    obtain⟨h,h1,h2⟩:=List.mem_map.1 (hrow▸hz)
    subst h2
    have h3:=(hrm h).1 hz
    refine⟨h,h3.1,rfl,hc1 h h3.2,fun hm=>?_⟩
    have:=(hK.zero h h3.1).1 (iN _ (p.mem_iff.1 (dT _ hm)))
    have:=hc1 h h3.2
    omega
   obtain⟨d',e',hL,hf⟩:=MJ hg (us g m m) row (fun h=>BR g out (h:Int)) q1 hrn hrr (fun h=>MH hg _ _) (fun z hz=>hK.yv z (iN _ (p.mem_iff.1 (dT _ hz))))
    (row.length+1) 0 op q1 (by omega) (by omega) ⟨hK.len,fun h hh=>by rw[hK.num h hh];simp,hpn.2,fun z=>by simp⟩
   have hK':KI g m e' (out++[(x:Int)]) d':=by
    have hcnt:∀h:Nat,BR g out (h:Int)=BR g (out++[(x:Int)]) (h:Int)+if(x:Int)∈ks g (h:Int) then 1 else 0:=fun h=>DF hg hxo
    have hmem:∀z,z∈e'↔z∈q1∨∃h:Nat,z=(h:Int)∧(h:Int)∈row∧BR g out (h:Int)=1:=fun z=>by
     have:=hL.mem z
     rw[List.take_length] at this
     exact this
    have hq1:∀z,z∈q1→z∈q∧z≠(x:Int):=fun z hz=>⟨p.mem_iff.1 (dT _ hz),fun e=>hpn.1 (e▸hz)⟩
    refine⟨hL.len,fun h hh=>?_,?_,fun z hz=>?_,fun h hh=>?_,fun i hi z hz=>?_⟩
    ·have:=hL.num h hh
     rw[List.take_length] at this
     rw[this]
     have h1:=hcnt h
     by_cases hxk:(x:Int)∈ks g (h:Int)
     ·rw[aA hxk] at h1
      rw[aA ((hrm h).2 ⟨hh,hxk⟩)]
      exact congrArg some (by omega)
     ·rw[aC hxk] at h1
      rw[aC (fun hm=>hxk ((hrm h).1 hm).2)]
      exact congrArg some (by omega)
    ·rw[List.nodup_append]
     refine⟨hL.nod,?_,fun a ha b hb=>?_⟩
     ·rw[List.nodup_append]
      refine⟨hon,by simp,fun a ha b hb=>?_⟩
      rw[lj] at hb
      subst hb
      exact fun e=>hxo (e▸ha)
     ·rintro rfl
      rcases(hmem a).1 ha with h1|⟨h,h1,h2,h3⟩
      ·rcases List.mem_append.1 hb with h4|h4
       ·exact hdis _ (hq1 a h1).1 _ h4 rfl
       ·exact(hq1 a h1).2 (List.mem_singleton.1 h4)
      ·subst h1
       have h4:(h:Int)∈q++out:=by
        rcases List.mem_append.1 hb with h5|h5
        ·exact mV _ h5
        ·rw[List.mem_singleton.1 h5];exact iN _ hxq
       have:=(hK.zero h ((hrm h).1 h2).1).1 h4
       omega
    ·rcases List.mem_append.1 hz with h1|h1
     ·rcases(hmem z).1 h1 with h2|⟨h,h2,h3,_⟩
      ·exact hK.yv z (iN _ (hq1 z h2).1)
      ·have:=((hrm h).1 h3).1;omega
     ·rcases List.mem_append.1 h1 with h2|h2
      ·exact hor z h2
      ·rw[lj] at h2;omega
    ·have h1:=hcnt h
     have h2:=hK.zero h hh
     rw[j4,j4,lj,hmem]
     constructor
     ·rintro((h3|⟨h',h3,h4,h5⟩)|h3|h3)
      ·have:=h2.1 (iN _ (hq1 _ h3).1);omega
      ·have:h'=h:=by omega
       subst this
       rw[aA ((hrm _).1 h4).2] at h1;omega
      ·have:=h2.1 (mV _ h3);omega
      ·have:=h2.1 (iN _ (h3▸hxq));omega
     ·intro h3
      by_cases hz0:BR g out (h:Int)=0
      ·rcases List.mem_append.1 (h2.2 hz0) with h4|h4
       ·rcases List.mem_cons.1 (p.mem_iff.2 h4) with h5|h5
        ·exact Or.inr (Or.inr h5)
        ·exact Or.inl (Or.inl h5)
       ·exact Or.inr (Or.inl h4)
      ·by_cases hxk:(x:Int)∈ks g (h:Int)
       ·rw[aA hxk] at h1
        exact Or.inl (Or.inr ⟨h,rfl,(hrm h).2 ⟨hh,hxk⟩,by omega⟩)
       ·rw[aC hxk] at h1;omega
    ·by_cases hio:i<out.length
     ·rw[List.getElem_append_left hio] at hz
      rw[List.take_append_of_le_length (by omega)]
      exact hK.pre i hio z hz
     ·have hi':i=out.length:=by rw[dZ,cM] at hi;omega
      subst hi'
      rw[List.getElem_append_right (cL _)] at hz
      simp only[Nat.sub_self,List.getElem_singleton] at hz
      rw[List.take_append_of_le_length (cL _),List.take_length]
      by_cases hzo:z∈out
      ·exact hzo
      ·have:z∈(ks g (x:Int)).filter fun w=>decide (w∉out):=List.mem_filter.2 ⟨hz,cu hzo⟩
       have h9:((ks g (x:Int)).filter fun w=>decide (w∉out))= []:=List.length_eq_zero_iff.1 hx0
       rw[h9] at this
       exact absurd this List.not_mem_nil
   obtain⟨out',hO,hr⟩:=ih e' (out++[(x:Int)]) d' (by rw[dZ,cM];omega) hK'
   refine⟨out',hO,fun y=>?_⟩
   rw[hstep]
   have hr:=hr y
   have hf:=hf y (out++[(x:Int)])
   unfold eG at hr
   have e1:f150 q=some (q.length:Int):=rfl
   have d1:decide ((0:Int)<(q.length:Int))=true:=cu (by have:=List.length_pos_iff.2 hq;omega)
   have e2:Yc y ((x:Int),y,0,y.gs 1,out,())=some (true,y,0,y.gs 1,out++[(x:Int)]):=PC y (x:Int) out (by omega)
   have d2:((x:Int)<((us g m m).length:Int))=True:=by rw[ql];simp only[eq_iff_iff,iff_true];omega
   simp only[e1,aJ,d1,bH,hpop,e2,oq,cJ,bY,aH,dD,d2,MK hx,hrow,dO]
   have hf':eC y.l (Yc y) (row.length+1) (y.l,us g m m,row,(row.length:Int),0,y,0,y.gs 1,op,out++[(x:Int)],q1)=some (.brk (y.l,us g m m,y,0,y.gs 1,d',out++[(x:Int)],e')):=hf
   rw[hf',aH]
   exact hr
theorem PG{g:dR}{m:Nat}(hg:GG g m):∃out,KO g m out∧∀y:YC,iV y.l (Yc y) y.l g y 0 (y.gs 1) []=some (y,0,y.gs 1,out):=by
 have hB:=hB
 have hsm:=hg.small
 obtain⟨c',e',hL,h3⟩:=PD hg (us g m m) (m+1) 0 (List.replicate m (0:Int)) [] (by omega) (by omega) ⟨jJ ..,fun h hh=>by omega,List.nodup_nil,fun x=>by simp⟩
 obtain⟨out,hO,h9⟩:=PE hg gD e' [] c' (Bx (by simp;omega)) ⟨hL.len,fun h hh=>by rw[hL.num h hh,DE],by rw[gI];exact hL.nod,fun x hx=>by
  rw[gI] at hx
  obtain⟨h,h1,h2,_⟩:=(hL.mem x).1 hx
  omega,fun h hh=>by
  rw[gI,hL.mem,DE]
  constructor
  ·rintro⟨h',h1,h2,h3⟩
   have:h'=h:=by omega
   subst this;exact h3
  ·intro h1;exact⟨h,hh,rfl,h1⟩,fun i hi=>by simp at hi⟩
 refine⟨out,hO,fun y=>?_⟩
 have h3:=h3 y []
 have h3':eF y.l (Yc y) (m+1) (y.l,g,us g m m,(m:Int),0,y,0,y.gs 1,[],List.replicate m (0:Int),[])=some (.brk (y.l,us g m m,y,0,y.gs 1,[],c',e')):=h3
 unfold iV
 rw[GD hg,aJ,hg.many,ei m,aA (kg _),aA (by omega),dO]
 erw[h3']
 rw[aH]
 dsimp only
 rw[h9 y,aH]
theorem BU{g:dR}{m:Nat}(hg:GG g m):∃out,KO g m out∧lM g=some out:=by
 obtain⟨out,hO,h⟩:=PG hg
 refine⟨out,hO,?_⟩
 unfold lM rF
 rw[mF (r:=.brk out)]
 ·rfl
 ·intro y
  erw[h y]
  simp only[aJ,eP,bH]
abbrev NM:=ZN
def kk(M:NM)(h:Int):Ze:=(bM (bw (.int .i64) (.map (.int .i64) .bool) h M)).map (·.1)
theorem jB{α:Type}{k z:Int}{v:α}{es:List (Int×α)}:z∈(bB (.int .i64) k v es).map (·.1)↔z=k∨z∈es.map (·.1):=by
 have h1:=eo (kt:=.int .i64) rfl (k:=z) (es:=bB (.int .i64) k v es)
 have h2:=eo (kt:=.int .i64) rfl (k:=z) (es:=es)
 by_cases h:z=k
 ·subst h
  exact⟨fun _=>Or.inl rfl,fun _=>h1.1 (gN (kt:=.int .i64) rfl _ _ _)⟩
 ·rw[fF (kt:=.int .i64) rfl h] at h1
  exact⟨fun hz=>Or.inr (h2.1 (h1.2 hz)),fun hz=>h1.1 (h2.2 (hz.resolve_left h))⟩
theorem ph{M:NM}{h:Int}{L:Zm}:kk (bB (.int .i64) h (some L) M) h=L.map (·.1):=by
 unfold kk
 rw[dp (kt:=.int .i64) (vt:=.map (.int .i64) .bool) rfl]
 rfl
theorem pj{M:NM}{h z:Int}{L:Zf}(hz:z≠h):kk (bB (.int .i64) h L M) z=kk M z:=by
 unfold kk
 rw[dj (kt:=.int .i64) (vt:=.map (.int .i64) .bool) rfl hz]
structure RG(m:Nat)(M:NM):Prop where
 nod:∀h,(kk M h).Nodup
 yv:∀h x,x∈kk M h→0≤x∧x<(m:Int)
 ML:(M.map (·.1)).Nodup
 Kj:∀x∈M.map (·.1),0≤x∧x<(m:Int)
theorem qZ(m x:Int)(M:NM):pa m x M=some (decide (0≤x∧x<m),M):=by
 unfold pa
 by_cases h:0≤x
 ·rw[cH h,aJ]
  simp[h]
 ·rw[aC (by simp[h]),aJ]
  simp[h]
theorem RG.put{m:Nat}{M:NM}(hM:RG m M){h x:Int}(hh:h∈M.map (·.1))(hx:0≤x∧x<(m:Int)):
 RG m (bB (.int .i64) h (some (bB (.int .i64) x true (bM (bw (.int .i64) (.map (.int .i64) .bool) h M)))) M):=by
 refine⟨fun z=>?_,fun z y hy=>?_,dX (kt:=.int .i64) rfl hM.ML,fun z hz=>?_⟩
 ·by_cases hz:z=h
  ·subst hz
   rw[ph]
   exact dX (kt:=.int .i64) rfl (hM.nod z)
  ·rw[pj hz];exact hM.nod z
 ·by_cases hz:z=h
  ·subst hz
   rw[ph,jB] at hy
   rcases hy with rfl|hy
   ·exact hx
   ·exact hM.yv z y hy
  ·rw[pj hz] at hy;exact hM.yv z y hy
 ·rw[jB] at hz
  rcases hz with rfl|hz
  ·exact hM.Kj _ hh
  ·exact hM.Kj z hz
theorem GF{M:NM}{h x z y:Int}:y∈kk (bB (.int .i64) h (some (bB (.int .i64) x true (bM (bw (.int .i64) (.map (.int .i64) .bool) h M)))) M) z↔(z=h∧y=x)∨y∈kk M z:=by
 by_cases hz:z=h
 ·subst hz
  rw[ph,jB]
  exact⟨fun hy=>hy.imp (fun e=>⟨rfl,e⟩) id,fun hy=>hy.imp (·.2) id⟩
 ·rw[pj hz]
  exact⟨Or.inr,fun hy=>hy.resolve_left fun e=>hz e.1⟩
abbrev GH:Int×dR:=((140:Int),((0:Int),((none:Option NM),())))
theorem MM{m:Nat}(hsm:m≤1000000)(i:Zn)(j k:Int)(fr:Zv)(h:dq)(hfr:fr.length≤aE):∀(n c:Nat)(M:NM),fr.length -c<n→c≤fr.length→RG m M→h.2.1∈M.map (·.1)→(∀z(hz:z<fr.length),z<c→fr[z].2.2.1∈kk M h.2.1)→
 (∃M',mK n (i,j,k,fr,(fr.length:Int),(c:Int),(m:Int),h,M)=some (.brk (i,j,k,(m:Int),M'))∧RG m M'∧(∀z y,y∈kk M z→y∈kk M' z)∧∀f∈fr,f.2.2.1∈kk M' h.2.1)∨
  mK n (i,j,k,fr,(fr.length:Int),(c:Int),(m:Int),h,M)=some (.ret (.ret GH)):=by
 intro n
 have hB:=hB
 induction n with
 |zero=>intro c M h;omega
 |
  succ n ih=>
  intro c M hn hc hM hh hd
  unfold mK at ih ⊢
  rw[aM]
  generalize aK _ n=rec at ih ⊢
  dsimp only
  by_cases hcl:c<fr.length
  ·rw[cH (by omega),ei c,aA (show(c:Int)<(fr.length:Int) by omega),cT (t:=aL) hcl,qZ,aJ]
   dsimp only
   by_cases hx:0≤fr[c].2.2.1∧fr[c].2.2.1<(m:Int)
   ·rw[aC (by simp[hx]),aA (eo (kt:=.int .i64) rfl |>.2 hh),aA (iq (kt:=.int .i64) rfl _)]
    have hlen:(bM (bw (.int .i64) (.map (.int .i64) .bool) h.2.1 M)).length≤m:=by
     have:=fV m (kk M h.2.1) (hM.nod _) (hM.yv _)
     unfold kk at this
     rw[iO] at this
     exact this
    rw[aA (by omega),bu (by omega)]
    rcases ih (c+1) _ (by omega) (by omega) (hM.put hh hx) (by rw[jB];exact Or.inl rfl) (fun z hz hzc=>by
     rw[GF]
     by_cases e:z=c
     ·subst e;exact Or.inl ⟨rfl,rfl⟩
     ·exact Or.inr (hd z hz (by omega))) with⟨M',e,h1,h2,h3⟩|e
    ·exact Or.inl ⟨M',e,h1,fun z y hy=>h2 z y (GF.2 (Or.inr hy)),h3⟩
    ·exact Or.inr e
   ·rw[aA (by simp[hx])]
    exact Or.inr rfl
  ·rw[gu (by omega)]
   refine Or.inl ⟨M,rfl,hM,fun _ _ h=>h,fun f hf=>?_⟩
   obtain⟨z,hz,rfl⟩:=gH hf
   exact hd z hz (by omega)
theorem PH{m:Nat}(hsm:m≤1000000)(rs:Zn)(hrs:rs.length≤aE)(hfr:∀r∈rs,r.2.2.1.length≤aE):∀(n c:Nat)(M:NM),rs.length -c<n→c≤rs.length→RG m M→(∀z(hz:z<rs.length),z<c→∀f∈rs[z].2.2.1,f.2.2.1∈kk M rs[z].2.1)→
 (∃M',qk n (rs,(rs.length:Int),(c:Int),(m:Int),M)=some (.brk ((m:Int),M'))∧RG m M'∧∀r∈rs,∀f∈r.2.2.1,f.2.2.1∈kk M' r.2.1)∨
  qk n (rs,(rs.length:Int),(c:Int),(m:Int),M)=some (.ret GH):=by
 intro n
 have hB:=hB
 induction n with
 |zero=>intro c M h;omega
 |
  succ n ih=>
  intro c M hn hc hM hd
  unfold qk at ih ⊢
  rw[aM]
  generalize aK _ n=rec at ih ⊢
  dsimp only
  by_cases hcl:c<rs.length
  ·rw[cH (by omega),ei c,aA (show(c:Int)<(rs.length:Int) by omega),cT (t:=bz) hcl,qZ,aJ]
   dsimp only
   by_cases hx:0≤rs[c].2.1∧rs[c].2.1<(m:Int)
   ·rw[aC (by simp[hx])]
    have hput:∃M1,RG m M1∧rs[c].2.1∈M1.map (·.1)∧(∀z y,y∈kk M z→y∈kk M1 z)∧
     (if(!(ck (.int .i64) rs[c].2.1 M))=true then(if ck (.int .i64) rs[c].2.1 M=false then(if aY (.int .i64) rs[c].2.1 rs[c].2.1=true then(if List.length M+1≤aE then(some (cQ.brk (rs,(rs.length:Int),(c:Int),(m:Int),rs[c],bB (.int .i64) rs[c].2.1 (some ([]:Zm)) (bB (.int .i64) rs[c].2.1 (Ty.aD (.map (.int .i64) .bool)) M)))) else none) else none) else none) else(some (.brk (rs,(rs.length:Int),(c:Int),(m:Int),rs[c],M))):Option (cQ (List dq×Int×Int×Int×dq×NM) (cQ (List dq×Int×Int×Int×NM) (cQ (Int×NM) (Int×dR)))))=some (.brk (rs,(rs.length:Int),(c:Int),(m:Int),rs[c],M1)):=by
     cases hm:ck (.int .i64) rs[c].2.1 M with
     |true=>exact⟨M,hM,eo (kt:=.int .i64) rfl |>.1 hm,fun _ _ h=>h,by rw[aC (by simp)]⟩
     |
      false=>
      have hno:rs[c].2.1∉M.map (·.1):=fun h=>by
       have:=eo (kt:=.int .i64) rfl |>.2 h
       rw[hm] at this;cases this
      have hk0:kk M rs[c].2.1= []:=by
       unfold kk
       rw[xg (kt:=.int .i64) hm]
       rfl
      have hlen:M.length≤m:=by
       have:=fV m (M.map (·.1)) hM.ML hM.Kj
       rw[iO] at this
       exact this
      refine⟨_,⟨fun z=>?_,fun z y hy=>?_,dX (kt:=.int .i64) rfl (dX (kt:=.int .i64) rfl hM.ML),fun z hz=>?_⟩,jB.2 (Or.inl rfl),fun z y hy=>?_,by rw[aA (by simp),aA rfl,aA (iq (kt:=.int .i64) rfl _),aA (by omega)]⟩
      ·by_cases hz:z=rs[c].2.1
       ·subst hz;rw[ph];exact List.nodup_nil
       ·rw[pj hz,pj hz];exact hM.nod z
      ·by_cases hz:z=rs[c].2.1
       ·subst hz;rw[ph] at hy;cases hy
       ·rw[pj hz,pj hz] at hy;exact hM.yv z y hy
      ·rw[jB,jB] at hz
       rcases hz with rfl|rfl|hz
       ·exact hx
       ·exact hx
       ·exact hM.Kj z hz
      ·by_cases hz:z=rs[c].2.1
       ·subst hz;rw[hk0] at hy;cases hy
       ·rw[pj hz,pj hz];exact hy
    obtain⟨M1,hM1,hh1,hk1,e1⟩:=hput
    rw[e1,aH]
    dsimp only
    rcases MM hsm rs (rs.length:Int) (c:Int) rs[c].2.2.1 rs[c] (hfr _ (jn hcl)) (rs[c].2.2.1.length+1) 0 M1 (by omega) (by omega) hM1 hh1 (fun z hz h=>by omega) with⟨M',e,h1,h2,h3⟩|e
    ·have e':mK (Int.toNat (List.length rs[c].2.2.1:Int)+1) (rs,(rs.length:Int),(c:Int),rs[c].2.2.1,(List.length rs[c].2.2.1:Int),0,(m:Int),rs[c],M1)=some (.brk (rs,(rs.length:Int),(c:Int),(m:Int),M')):=e
     rw[e',aH]
     dsimp only
     rw[bu (by omega)]
     exact ih (c+1) M' (by omega) (by omega) h1 fun z hz hzc f hf=>by
      by_cases ec:z=c
      ·subst ec;exact h3 f hf
      ·exact h2 _ _ (hk1 _ _ (hd z hz (by omega) f hf))
    ·have e':mK (Int.toNat (List.length rs[c].2.2.1:Int)+1) (rs,(rs.length:Int),(c:Int),rs[c].2.2.1,(List.length rs[c].2.2.1:Int),0,(m:Int),rs[c],M1)=some (.ret (.ret GH)):=e
     rw[e',eT]
     exact Or.inr rfl
   ·rw[aA (by simp[hx])]
    exact Or.inr rfl
  ·rw[gu (by omega)]
   refine Or.inl ⟨M,rfl,hM,fun r hr=>?_⟩
   obtain⟨z,hz,rfl⟩:=gH hr
   exact hd z hz (by omega)
structure SB(s:cz):Prop where
 schemas:s.2.2.1.length≤1000000
 rules:s.2.2.2.1.length≤aE
 PI:∀r∈s.2.2.2.1,r.2.2.1.length≤aE
theorem Kk{s:cz}(hs:SB s):(∃g,f95 s=some ((0:Int),g)∧GG g s.2.2.1.length∧∀r∈s.2.2.2.1,∀f∈r.2.2.1,f.2.2.1∈ks g r.2.1)∨f95 s=some GH:=by
 have key:=PH hs.schemas s.2.2.2.1 hs.rules hs.PI (s.2.2.2.1.length+1) 0 [] (by omega) (by omega) ⟨fun h=>List.nodup_nil,fun h x hx=>(by cases hx),List.nodup_nil,fun x hx=>(by cases hx)⟩ (fun z hz h=>by omega)
 unfold f95
 rcases key with⟨M',e,h1,h2⟩|e
 ·have e':qk (Int.toNat (List.length s.2.2.2.1:Int)+1) (s.2.2.2.1,(List.length s.2.2.2.1:Int),0,(List.length s.2.2.1:Int),([]:NM))=some (.brk ((s.2.2.1.length:Int),M')):=e
  rw[e',aH]
  exact Or.inl ⟨_,rfl,⟨rfl,hs.schemas,fun h=>h1.nod h,fun h x hx=>h1.yv h x hx⟩,h2⟩
 ·have e':qk (Int.toNat (List.length s.2.2.2.1:Int)+1) (s.2.2.2.1,(List.length s.2.2.2.1:Int),0,(List.length s.2.2.1:Int),([]:NM))=some (.ret GH):=e
  rw[e',eT]
  exact Or.inr rfl
structure Ranked(s:cz)(l:Ze):Prop where
 nod:l.Nodup
 all:∀x,x∈l↔0≤x∧x<(s.2.2.1.length:Int)
 pre:∀r∈s.2.2.2.1,∀f∈r.2.2.1,l.idxOf f.2.2.1<l.idxOf r.2.1
theorem KO.all{g:dR}{m:Nat}{out:Ze}(h:KO g m out)(hl:m≤out.length)(x:Int):x∈out↔0≤x∧x<(m:Int):=by
 refine⟨h.yv x,fun hx=>?_⟩
 by_cases hm:x∈out
 ·exact hm
 ·have:=fV m (x::out) (List.nodup_cons.2 ⟨hm,h.nod⟩) fun y hy=>by
   rcases List.mem_cons.1 hy with rfl|hy
   ·exact hx
   ·exact h.yv y hy
  rw[dH] at this
  omega
theorem Aa{s:cz}(hs:SB s):∃l ok e,f61 s=some (l,ok,e)∧(e=0→ok=true→(∀r∈s.2.2.2.1,0≤r.2.1∧r.2.1<(s.2.2.1.length:Int))→Ranked s l):=by
 unfold f61
 rcases Kk hs with⟨g,e,hg,hn⟩|e
 ·rw[e,aJ]
  dsimp only
  rw[aC (by decide)]
  obtain⟨out,hO,ho⟩:=BU hg
  have ho:=(zY g).trans ho
  have e2:BQ g=some g:=rfl
  rw[e2,aJ,ho,aJ,hg.many]
  by_cases hl:out.length<s.2.2.1.length
  ·rw[cH (by omega)]
   exact⟨_,_,_,rfl,fun _ h=>(by cases h)⟩
  ·rw[gu (by omega)]
   refine⟨_,_,_,rfl,fun _ _ hr=>⟨hO.nod,hO.all (by omega),fun r hrm f hf=>?_⟩⟩
   have hin:r.2.1∈out:=(hO.all (by omega) _).2 (hr r hrm)
   have hi:=List.idxOf_lt_length_of_mem hin
   have h1:=hO.pre _ hi f.2.2.1 (by rw[List.getElem_idxOf];exact hn r hrm f hf)
   obtain⟨j,hj,e3⟩:=gH h1
   rw[lO] at hj
   rw[List.getElem_take] at e3
   rw[←e3,hO.nod.idxOf_getElem]
   omega
 ·rw[e,aJ]
  dsimp only
  rw[aA (by decide)]
  exact⟨_,_,_,rfl,fun h=>(by cases h)⟩
theorem bindT{A R:Type}{x:Option A}{f:A→Option R}(hx:∃a,x=some a)(hf:∀a,∃r,f a=some r):∃r,Option.bind x f=some r:=by
 obtain⟨a,rfl⟩:=hx
 exact hf a
theorem equalS_ans(x y:ZF)(hl:x.length≤aE):∃r,f97 x y=some r:=Hd .str (fun a b=>decide (a=b)) x y fun _=>hl
theorem diffS_ans(l:ZF)(hl:l.length≤aE):∃r,f180 l=some r:=by
 have hB:=hB
 have key:∀(n a:Nat)(d:List (Zg×Bool)),l.length -a<n→a≤l.length→d.length≤a→∃r,aG (U:=Unit) (xz n (l,(l.length:Int),(a:Int),d)) (fun _=>some true)=some r:=by
  intro n
  induction n with
  |zero=>intro a d h;omega
  |
   succ n ih=>
   intro a d hn ha hd
   unfold xz at ih ⊢
   rw[aM]
   generalize aK _ n=rec at ih ⊢
   dsimp only
   by_cases h:a<l.length
   ·rw[cH (by omega),ei a,aA (show(a:Int)<(l.length:Int) by omega)]
    split
    ·exact⟨_,rfl⟩
    ·rw[aA (by omega),bu (by omega)]
     exact ih (a+1) _ (by omega) (by omega) (cG (dr (kt:=.str)) (by omega))
   ·rw[gu (by omega)]
    exact⟨_,rfl⟩
 exact key _ 0 [] (by omega) (by omega) (by simp)
theorem diffI_ans(l:Ze)(hl:l.length≤aE):∃r,f136 l=some r:=by
 have hB:=hB
 have key:∀(n a:Nat)(d:Zm),l.length -a<n→a≤l.length→d.length≤a→∃r,aG (U:=Unit) (xN n (l,(l.length:Int),(a:Int),d)) (fun _=>some true)=some r:=by
  intro n
  induction n with
  |zero=>intro a d h;omega
  |
   succ n ih=>
   intro a d hn ha hd
   unfold xN at ih ⊢
   rw[aM]
   generalize aK _ n=rec at ih ⊢
   dsimp only
   by_cases h:a<l.length
   ·rw[cH (by omega),ei a,aA (show(a:Int)<(l.length:Int) by omega)]
    split
    ·exact⟨_,rfl⟩
    ·rw[aA (by omega),bu (by omega)]
     exact ih (a+1) _ (by omega) (by omega) (cG (dr (kt:=.int .i64)) (by omega))
   ·rw[gu (by omega)]
    exact⟨_,rfl⟩
 exact key _ 0 [] (by omega) (by omega) (by simp)
abbrev namesOf(t:jg):ZF:=t.2.2.2.2.2.1
theorem kindA_ans(t:jg)(n:Int):∃r,f176 t n=some r:=by
 unfold f176
 refine bindT ?_ fun v=>⟨v,rfl⟩
 repeat' (first|exact⟨_,rfl⟩|split)
theorem kindB_ans(t:jg)(n:Int):∃r,f177 t n=some r:=by
 unfold f177
 refine bindT ?_ fun v=>⟨v,rfl⟩
 repeat' (first|exact⟨_,rfl⟩|split)
theorem kindC_ans(t:jg)(n:Int):∃r,f178 t n=some r:=by
 unfold f178
 refine bindT ?_ fun v=>⟨v,rfl⟩
 repeat' (first|exact⟨_,rfl⟩|split)
theorem kindD_ans(t:jg)(n:Int)(h:(namesOf t).length≤aE):∃r,f179 t n=some r:=by
 unfold f179
 obtain⟨q,hq⟩:=diffS_ans _ h
 refine bindT ?_ fun v=>⟨v,rfl⟩
 rw[hq]
 repeat' (first|exact⟨_,rfl⟩|split)
theorem typeOK_ans(c:dt)(t:jg)(h:(namesOf t).length≤aE):∃r,f79 c t=some r:=by
 unfold f79
 by_cases h1:t.1<1
 ·rw[cH h1];exact⟨_,rfl⟩
 ·by_cases h2:(4:Int)<t.1
  ·rw[aC (by simpa using h1),cu h2];exact⟨_,rfl⟩
  ·rw[aC (by simpa using h1),dz h2,aJ,aC (by decide),aH]
   dsimp only
   rw[aA (by omega),aA (by omega),aC (by omega)]
   by_cases e1:t.1=1
   ·rw[aA e1];exact bindT (kindA_ans _ _) fun v=>⟨v,rfl⟩
   ·rw[aC e1]
    by_cases e2:t.1=2
    ·rw[aA e2];exact bindT (kindB_ans _ _) fun v=>⟨v,rfl⟩
    ·rw[aC e2]
     by_cases e3:t.1=3
     ·rw[aA e3];exact bindT (kindC_ans _ _) fun v=>⟨v,rfl⟩
     ·rw[aC e3,aA (by omega)];exact bindT (kindD_ans _ _ h) fun v=>⟨v,rfl⟩
theorem unitOK_ans(c:dt)(u:gO):∃r,f85 c u=some r:=by
 unfold f85
 refine bindT ?_ fun v=>⟨v,rfl⟩
 by_cases h1:0≤u.2.2.2.1
 ·by_cases h2:u.2.2.2.1<(c.1.2.1.length:Int)
  ·rw[aA h1,aA h2]
   repeat' (first|exact⟨_,rfl⟩|split)
  ·rw[aC (show¬decide (u.2.2.2.1<(List.length c.1.2.1:Int))=true by simpa using h2)]
   repeat' (first|exact⟨_,rfl⟩|split)
 ·rw[aC (show¬decide ((0:Int)≤u.2.2.2.1)=true by simpa using h1)]
  repeat' (first|exact⟨_,rfl⟩|split)
def flds(s:cz)(a:Int):ZD:=(nth bG s.2.2.1 a).2.2.2.2.1
structure InF(s:cz)(a b:Int):Prop where
 a0:0≤a
 a1:a<(s.2.2.1.length:Int)
 b0:0≤b
 b1:b<((flds s a).length:Int)
theorem typeOf_eq(c:dt)(a b:Int):(InF c.1 a b∧f78 c a b=some (true,(nth dY (flds c.1 a) b).2.1))∨(¬InF c.1 a b∧∃t,f78 c a b=some (false,t)):=by
 unfold f78
 by_cases h1:a<0
 ·rw[cH h1]
  exact Or.inr ⟨fun h=>by have:=h.a0;omega,_,rfl⟩
 ·rw[aC (by simpa using h1)]
  by_cases h2:(c.1.2.2.1.length:Int)≤a
  ·rw[cH h2]
   exact Or.inr ⟨fun h=>by have:=h.a1;omega,_,rfl⟩
  ·rw[aC (by simpa using h2)]
   by_cases h3:b<0
   ·rw[cH h3]
    exact Or.inr ⟨fun h=>by have:=h.b0;omega,_,rfl⟩
   ·rw[aC (by simpa using h3),aA (show 0≤a by omega),aA (show a<(c.1.2.2.1.length:Int) by omega)]
    by_cases h4:((flds c.1 a).length:Int)≤b
    ·have d4:decide (((flds c.1 a).length:Int)≤b)=true:=cu h4
     unfold flds at d4
     rw[d4,aJ,aA rfl]
     exact Or.inr ⟨fun h=>by have:=h.b1;omega,_,rfl⟩
    ·have d4:decide (((flds c.1 a).length:Int)≤b)=false:=dz h4
     have h5:b<((flds c.1 a).length:Int):=by omega
     have h6:=h5
     unfold flds at d4 h6
     rw[d4,aJ,aC (by decide),aH]
     dsimp only
     rw[aA (show 0≤a by omega),aA (show a<(c.1.2.2.1.length:Int) by omega),aA (show 0≤b by omega),aA h6]
     exact Or.inl ⟨⟨by omega,by omega,by omega,h5⟩,rfl⟩
structure InT(c:fC)(t:gO)(n:Int):Prop where
 v0:0≤t.2.2.1
 v1:t.2.2.1<n
 f:InF c.1.1 (nth aL c.2.1.2.2.1 t.2.2.1).2.2.1 t.2.2.2.1
theorem termType_eq(c:fC)(t:gO){n:Int}(hn:n≤(c.2.1.2.2.1.length:Int)):
 (InT c t n∧f203 c t n=some (true,(nth dY (flds c.1.1 (nth aL c.2.1.2.2.1 t.2.2.1).2.2.1) t.2.2.2.1).2.1))∨(¬InT c t n∧∃y,f203 c t n=some (false,y)):=by
 unfold f203
 by_cases h1:t.2.2.1<0
 ·rw[cH h1]
  exact Or.inr ⟨fun h=>by have:=h.v0;omega,_,rfl⟩
 ·rw[aC (by simpa using h1)]
  by_cases h2:n≤t.2.2.1
  ·rw[cu h2,aJ,aA rfl]
   exact Or.inr ⟨fun h=>by have:=h.v1;omega,_,rfl⟩
  ·rw[dz h2,aJ,aC (by decide),aH]
   dsimp only
   rw[aA (show 0≤t.2.2.1 by omega),aA (show t.2.2.1<(c.2.1.2.2.1.length:Int) by omega)]
   rcases typeOf_eq c.1 (nth aL c.2.1.2.2.1 t.2.2.1).2.2.1 t.2.2.2.1 with⟨hi,e⟩|⟨hi,y,e⟩
   ·rw[e]
    exact Or.inl ⟨⟨by omega,by omega,hi⟩,rfl⟩
   ·rw[e]
    exact Or.inr ⟨fun h=>hi h.f,y,rfl⟩
theorem kindA_unit{t:jg}{n:Int}(h:f176 t n=some true):-1≤t.2.2.2.2.1∧t.2.2.2.2.1<n:=by
 unfold f176 at h
 by_cases h1:-1≤t.2.2.2.2.1
 ·by_cases h2:t.2.2.2.2.1<n
  ·exact⟨h1,h2⟩
  ·exfalso
   rw[aC (show¬decide (t.2.2.2.2.1<n)=true by simpa using h2)] at h
   repeat' (first|cases h;done|split at h)
 ·exfalso
  rw[aC (show¬decide ((-1:Int)≤t.2.2.2.2.1)=true by simpa using h1)] at h
  repeat' (first|cases h;done|split at h)
theorem typeOK_unit{c:dt}{t:jg}(h:f79 c t=some true)(h1:t.1=1):-1≤t.2.2.2.2.1∧t.2.2.2.2.1<(c.1.2.1.length:Int):=by
 unfold f79 at h
 rw[aC (show¬decide (t.1<(1:Int))=true by rw[h1];decide),h1,aJ,aC (by decide),aH] at h
 dsimp only at h
 rw[h1,aA (by decide),aA (by decide),aC (by decide),aA rfl] at h
 obtain⟨q,hq⟩:=kindA_ans t (c.1.2.1.length:Int)
 rw[hq] at h
 cases h
 exact kindA_unit hq
structure FO(c:fC)(j:Nat):Prop where
 s0:0≤(nth aL c.2.1.2.2.1 (j:Int)).2.2.1
 s1:(nth aL c.2.1.2.2.1 (j:Int)).2.2.1<(c.1.1.2.2.1.length:Int)
 of:(nth aL c.2.1.2.2.1 (j:Int)).2.2.2.1.2.2.1= -1∨InT c (nth aL c.2.1.2.2.1 (j:Int)).2.2.2.1 (j:Int)
theorem fromsL(c:fC)(hl:c.2.1.2.2.1.length≤aE):∀(n i:Nat),c.2.1.2.2.1.length -i<n→i≤c.2.1.2.2.1.length→(∀j<i,FO c j)→
 (aG (U:=Unit) (sj n (c.2.1.2.2.1,(c.2.1.2.2.1.length:Int),(i:Int),c)) (fun _=>some true)=some true∧∀j<c.2.1.2.2.1.length,FO c j)∨aG (U:=Unit) (sj n (c.2.1.2.2.1,(c.2.1.2.2.1.length:Int),(i:Int),c)) (fun _=>some true)=some false:=by
 intro n
 have hB:=hB
 induction n with
 |zero=>intro i h;omega
 |
  succ n ih=>
  intro i hn hi hd
  unfold sj at ih ⊢
  rw[aM]
  generalize aK _ n=rec at ih ⊢
  dsimp only
  by_cases h:i<c.2.1.2.2.1.length
  ·rw[cH (by
    omega),ei i,aA (show(i:Int)<(c.2.1.2.2.1.length:Int) by omega)]
   by_cases h1:(nth aL c.2.1.2.2.1 (i:Int)).2.2.1<0
   ·rw[cH h1];exact Or.inr rfl
   ·rw[aC (show¬decide ((nth aL c.2.1.2.2.1 (i:Int)).2.2.1<(0:Int))=true by simpa using h1)]
    by_cases h2:(c.1.1.2.2.1.length:Int)≤(nth aL c.2.1.2.2.1 (i:Int)).2.2.1
    ·rw[cu h2,aJ,aA rfl];exact Or.inr rfl
    ·rw[dz h2,aJ,aC (by decide),aH]
     dsimp only
     rw[bu (by omega)]
     by_cases h3:(nth aL c.2.1.2.2.1 (i:Int)).2.2.2.1.2.2.1= -1
     ·rw[cH h3]
      exact ih (i+1) (by omega) (by omega) fun j hj=>by
       by_cases e:j=i
       ·subst e;exact⟨Int.not_lt.1 h1,Int.not_le.1 h2,Or.inl h3⟩
       ·exact hd j (by omega)
     ·rw[aC (show¬decide ((nth aL c.2.1.2.2.1 (i:Int)).2.2.2.1.2.2.1=(-1:Int))=true by simpa using h3)]
      rcases termType_eq c (nth aL c.2.1.2.2.1 (i:Int)).2.2.2.1 (n:=(i:Int)) (by omega) with⟨hit,e⟩|⟨_,y,e⟩
      ·rw[e,aJ]
       dsimp only
       rw[aC (by decide),aJ]
       split
       ·exact Or.inr rfl
       ·exact ih (i+1) (by omega) (by omega) fun j hj=>by
         by_cases e:j=i
         ·subst e;exact⟨Int.not_lt.1 h1,Int.not_le.1 h2,Or.inr hit⟩
         ·exact hd j (by omega)
      ·rw[e,aJ]
       dsimp only
       rw[aA (by decide),aJ,aA rfl]
       exact Or.inr rfl
  ·rw[gu (by omega)]
   exact Or.inl ⟨rfl,fun j hj=>hd j (by omega)⟩
theorem fromsOK_eq(c:fC)(hl:c.2.1.2.2.1.length≤aE):(f133 c=some true∧1≤c.2.1.2.2.1.length∧c.2.1.2.2.1.length≤3∧∀j<c.2.1.2.2.1.length,FO c j)∨f133 c=some false:=by
 unfold f133
 by_cases h1:(c.2.1.2.2.1.length:Int)<1
 ·rw[cH h1];exact Or.inr rfl
 ·rw[aC (show¬decide ((c.2.1.2.2.1.length:Int)<(1:Int))=true by simpa using h1)]
  by_cases h2:(3:Int)<(c.2.1.2.2.1.length:Int)
  ·rw[cu h2,aJ,aA rfl];exact Or.inr rfl
  ·rw[dz h2,aJ,aC (by decide),aH]
   rcases fromsL c hl (c.2.1.2.2.1.length+1) 0 (by omega) (by omega) (fun j hj=>by omega) with⟨e,h⟩|e
   ·exact Or.inl ⟨e,by omega,by omega,h⟩
   ·exact Or.inr e
def UO(s:cz):Prop:=∀x∈s.2.2.1,∀f∈x.2.2.2.2.1,f.2.1.1=1→-1≤f.2.1.2.2.2.2.1∧f.2.1.2.2.2.2.1<(s.2.1.length:Int)
def NB(s:cz):Prop:=∀x∈s.2.2.1,x.2.2.2.2.1.length≤aE∧∀f∈x.2.2.2.2.1,(namesOf f.2.1).length≤aE
theorem InF.mem{s:cz}{a b:Int}(h:InF s a b):nth bG s.2.2.1 a∈s.2.2.1∧nth dY (flds s a) b∈(nth bG s.2.2.1 a).2.2.2.2.1:=
 ⟨dv h.a0 h.a1,dv (t:=dY) (l:=flds s a) h.b0 h.b1⟩
theorem comparable_ans(c:dt)(a b:jg)(hn:(namesOf a).length≤aE)(ha:a.1=1→-1≤a.2.2.2.2.1∧a.2.2.2.2.1<(c.1.2.1.length:Int))(hb:b.1=1→-1≤b.2.2.2.2.1∧b.2.2.2.2.1<(c.1.2.1.length:Int)):∃r,f205 c a b=some r:=by
 unfold f205
 by_cases h1:a.1=b.1
 ·rw[aC (by simp[h1])]
  by_cases h4:a.1=4
  ·rw[cH h4]
   obtain⟨q,hq⟩:=equalS_ans (namesOf a) (namesOf b) hn
   unfold namesOf at hq
   rw[hq];exact⟨_,rfl⟩
  ·rw[aC (show¬decide (a.1=(4:Int))=true by simpa using h4)]
   by_cases e1:a.1=1
   ·obtain⟨ha1,ha2⟩:=ha e1
    obtain⟨hb1,hb2⟩:=hb (by omega)
    rw[aC (by simp[e1])]
    by_cases u1:a.2.2.2.2.1= -1
    ·rw[cH u1];exact⟨_,rfl⟩
    ·rw[aC (show¬decide (a.2.2.2.2.1=(-1:Int))=true by simpa using u1)]
     by_cases u2:b.2.2.2.2.1= -1
     ·rw[cu u2];exact⟨_,rfl⟩
     ·rw[dz u2,aJ,aC (by decide),aH]
      dsimp only
      rw[aA (by omega),aA ha2,aA (by omega),aA hb2]
      exact⟨_,rfl⟩
   ·rw[aA (by simp[e1])];exact⟨_,rfl⟩
 ·rw[aA (by simp[h1])];exact⟨_,rfl⟩
def TOK(c:fC)(t:gO):Prop:=InT c t (c.2.1.2.2.1.length:Int)∨t.2.2.1= -1
def tyT(c:fC)(t:gO):jg:=(nth dY (flds c.1.1 (nth aL c.2.1.2.2.1 t.2.2.1).2.2.1) t.2.2.2.1).2.1
def GT(s:cz)(y:jg):Prop:=(namesOf y).length≤aE∧(y.1=1→-1≤y.2.2.2.2.1∧y.2.2.2.2.1<(s.2.1.length:Int))
theorem InT.gt{c:fC}{t:gO}{n:Int}(h:InT c t n)(hN:NB c.1.1)(hU:UO c.1.1):GT c.1.1 (tyT c t):=by
 obtain⟨h1,h2⟩:=h.f.mem
 exact⟨(hN _ h1).2 _ h2,hU _ h1 _ h2⟩
theorem isNumber_eq(t:gO):∃r,f204 t=some r∧(r=true→t.2.2.1= -1):=by
 unfold f204
 by_cases h:t.2.2.1= -1
 ·obtain⟨r,hr⟩:∃r,(Option.bind (α:=Bool) (if(decide (t.2.2.1=(-1:Int)))=true then(if(decide ((0:Int)≤t.2.2.2.2.1))=true then(some (decide (t.2.2.2.2.1≤(1048576:Int)))) else(some false)) else(some false)) fun v1=>some v1)=some r:=by
   refine bindT ?_ fun v=>⟨v,rfl⟩
   repeat' (first|exact⟨_,rfl⟩|split)
  exact⟨r,hr,fun _=>h⟩
 ·rw[aC (show¬decide (t.2.2.1=(-1:Int))=true by simpa using h)]
  exact⟨false,rfl,fun h=>(by cases h)⟩
theorem setOK_eq(c:fC)(y:jg)(t:gO)(hN:NB c.1.1):∃r,f135 c y t=some r∧(r=true→TOK c t):=by
 unfold f135
 obtain⟨b,hb,hbm⟩:=isNumber_eq t
 rw[hb,aJ]
 cases b with
 |
  true=>
  rw[aA rfl]
  obtain⟨r,hr⟩:∃r,(Option.bind (α:=Bool) (if(decide (y.2.1≤t.2.2.2.2.1))=true then(some (decide (t.2.2.2.2.1≤y.2.2.1))) else(some false)) fun v2=>some v2)=some r:=by
   refine bindT ?_ fun v=>⟨v,rfl⟩
   repeat' (first|exact⟨_,rfl⟩|split)
  exact⟨r,hr,fun _=>Or.inr (hbm rfl)⟩
 |
  false=>
  rw[aC (by decide)]
  rcases termType_eq c t (n:=(c.2.1.2.2.1.length:Int)) (kg _) with⟨hi,e⟩|⟨_,z,e⟩
  ·rw[e,aJ]
   dsimp only
   have h1:=hi.f.mem
   obtain⟨q,hq⟩:=equalS_ans (namesOf (tyT c t)) (namesOf y) ((hN _ h1.1).2 _ h1.2)
   unfold namesOf tyT at hq
   have key:∀x:Zl,(∃r,x=some r)→∃r,x=some r∧(r=true→TOK c t):=fun x ⟨r,hr⟩=>⟨r,hr,fun _=>Or.inl hi⟩
   apply key
   refine bindT ?_ fun v=>⟨v,rfl⟩
   rw[aA rfl]
   simp only[hq,aJ]
   repeat' (first|exact⟨_,rfl⟩|split)
  ·rw[e,aJ]
   exact⟨false,rfl,fun h=>(by cases h)⟩
theorem atoml5(c:fC)(a:oR)(hN:NB c.1.1)(hU:UO c.1.1)(e:Zq)(he:e.length≤1000):∀(n i:Nat)(g:List jg),e.length -i<n→i≤e.length→g.length≤i→(∀y∈g,GT c.1.1 y)→(∀j(hj:j<e.length),j<i→TOK c e[j])→
 (∃g',mH n ((e.length:Int),(i:Int),c,a,e,g)=some (.brk (c,a,g'))∧g'.length≤e.length∧(∀y∈g',GT c.1.1 y)∧∀t∈e,TOK c t)∨mH n ((e.length:Int),(i:Int),c,a,e,g)=some (.ret false):=by
 intro n
 have hB:=hB
 induction n with
 |zero=>intro i g h;omega
 |
  succ n ih=>
  intro i g hn hi hgl hg hd
  unfold mH at ih ⊢
  rw[aM]
  generalize aK _ n=rec at ih ⊢
  dsimp only
  by_cases h:i<e.length
  ·rw[cH (by omega),ei i,aA (show(i:Int)<(e.length:Int) by omega),cT (t:=aS) h,bu (by omega)]
   rcases termType_eq c e[i] (n:=(c.2.1.2.2.1.length:Int)) (kg _) with⟨hit,e1⟩|⟨_,y,e1⟩
   ·rw[e1,aJ]
    dsimp only
    rw[aC (by decide),aJ,aC (by decide),aA rfl,aA (show(g.length+List.length [_])*72≤aE by rw[cM];omega)]
    exact ih (i+1) _ (by omega) (by omega) (by rw[dZ,cM];omega) (fun z hz=>by
     rcases List.mem_append.1 hz with hz|hz
     ·exact hg z hz
     ·rw[lj] at hz
      subst hz
      exact hit.gt hN hU) fun j hj hji=>by
     by_cases ej:j=i
     ·subst ej;exact Or.inl hit
     ·exact hd j hj (by omega)
   ·rw[e1,aJ]
    dsimp only
    obtain⟨b,hb,hbm⟩:=isNumber_eq e[i]
    rw[aA (by decide),hb,aJ,aJ]
    cases b with
    |false=>rw[aA (by decide)];exact Or.inr rfl
    |
     true=>
     rw[aC (by decide),aC (by decide)]
     exact ih (i+1) g (by omega) (by omega) (by omega) hg fun j hj hji=>by
      by_cases ej:j=i
      ·subst ej;exact Or.inr (hbm rfl)
      ·exact hd j hj (by omega)
  ·rw[gu (by omega)]
   refine Or.inl ⟨g,rfl,by omega,hg,fun t ht=>?_⟩
   obtain⟨j,hj,rfl⟩:=gH ht
   exact hd j hj (by omega)
theorem atoml16(a:oR)(g:List jg)(hg:g.length≤1000):∀(n i:Nat),g.length -i<n→i≤g.length→∃r,aG (U:=Unit) (mf n ((g.length:Int),(i:Int),a,g)) (fun _=>some true)=some r:=by
 intro n
 induction n with
 |zero=>intro i h;omega
 |
  succ n ih=>
  intro i hn hi
  unfold mf at ih ⊢
  rw[aM]
  generalize aK _ n=rec at ih ⊢
  dsimp only
  by_cases h:i<g.length
  ·rw[cH (by omega),ei i,aA (show(i:Int)<(g.length:Int) by omega),bu (by omega)]
   have key:∀v:Bool,∃r,aG (U:=Unit) (Option.bind (α:=Bool) (if(decide (a.1=(2:Int)))=true then(some (!v)) else(if(decide (a.1=(3:Int)))=true then(some (!v)) else(some false))) fun v16=>if v16=true then(bZ (some false)) else(rec ((g.length:Int),((i+1:Nat):Int),a,g))) (fun _=>some true)=some r:=by
    intro v
    have h2:∀w:Bool,∃r,aG (U:=Unit) (if w=true then(bZ (some false)) else(rec ((g.length:Int),((i+1:Nat):Int),a,g))) (fun _=>some true)=some r:=fun w=>by
     cases w with
     |true=>exact⟨_,rfl⟩
     |false=>exact ih (i+1) (by omega) (by omega)
    split
    ·exact h2 (!v)
    ·split
     ·exact h2 (!v)
     ·exact h2 false
   split
   ·exact key _
   ·exact key _
  ·rw[gu (by omega)]
   exact⟨_,rfl⟩
theorem atomOK_eq(c:fC)(a:oR)(hN:NB c.1.1)(hU:UO c.1.1):∃r,f134 c a=some r∧(r=true→TOK c a.2.1∧TOK c a.2.2.1):=by
 have hB:=hB
 unfold f134
 by_cases h1:a.1<1
 ·rw[cH h1];exact⟨_,rfl,fun h=>(by cases h)⟩
 ·rw[aC (show¬decide (a.1<(1:Int))=true by simpa using h1)]
  by_cases h2:(4:Int)<a.1
  ·rw[cu h2];exact⟨_,rfl,fun h=>(by cases h)⟩
  ·rw[dz h2,aJ,aC (by decide),aH]
   dsimp only
   rcases atoml5 c a hN hU [a.2.1,a.2.2.1] (by simp) 3 0 [] (by simp) (by simp) (by simp) (fun y hy=>(by cases hy)) (fun j hj h=>by omega) with⟨g,e,hgl,hg,ht⟩|e
   ·have e':mH (Int.toNat (List.length [a.2.1,a.2.2.1]:Int)+1) ((List.length [a.2.1,a.2.2.1]:Int),0,c,a,[a.2.1,a.2.2.1],([]:List jg))=some (.brk (c,a,g)):=e
    rw[e',aH]
    dsimp only
    have hgl2:g.length≤2:=hgl
    have key:∀x:Zl,(∃r,x=some r)→∃r,x=some r∧(r=true→TOK c a.2.1∧TOK c a.2.2.1):=fun x ⟨r,hr⟩=>⟨r,hr,fun _=>⟨ht _ (by simp),ht _ (by simp)⟩⟩
    apply key
    have h16:∃r,aG (U:=Unit) (mf (Int.toNat (List.length g:Int)+1) ((List.length g:Int),0,a,g)) (fun _=>some true)=some r:=atoml16 a g (by omega) _ 0 (by omega) (by omega)
    have h3:∀v:Bool,∃r,aG (U:=oR×List jg) (if v=true then(bZ (some false)) else(some (.brk (a,g)))) (fun u=>match u with|⟨x,f⟩=>aG (U:=Unit) (mf (Int.toNat (List.length f:Int)+1) ((List.length f:Int),0,x,f)) fun _=>some true)=some r:=fun v=>by
     cases v with
     |true=>exact⟨_,rfl⟩
     |false=>exact h16
    by_cases g0:(g.length:Int)=0
    ·rw[cH g0]
     exact h3 true
    ·rw[aC (show¬decide ((g.length:Int)=(0:Int))=true by simpa using g0)]
     by_cases g2:(g.length:Int)=2
     ·rw[cH g2,aA (by omega),aA (by omega)]
      have m0:=hg _ (dv (t:=lE) (l:=g) (a:=0) (by omega) (by omega))
      have m1:=hg _ (dv (t:=lE) (l:=g) (a:=1) (by omega) (by omega))
      obtain⟨q,hq⟩:=comparable_ans c.1 (nth lE g (0:Int)) (nth lE g (1:Int)) m0.1 m0.2 m1.2
      rw[hq]
      exact h3 _
     ·rw[aC (show¬decide ((g.length:Int)=(2:Int))=true by simpa using g2)]
      exact h3 false
   ·have e':mH (Int.toNat (List.length [a.2.1,a.2.2.1]:Int)+1) ((List.length [a.2.1,a.2.2.1]:Int),0,c,a,[a.2.1,a.2.2.1],([]:List jg))=some (.ret false):=e
    rw[e',eT]
    exact⟨_,rfl,fun h=>(by cases h)⟩
structure RK(c:fC):Prop where
 n1:1≤c.2.1.2.2.1.length
 n3:c.2.1.2.2.1.length≤3
 fo:∀j<c.2.1.2.2.1.length,FO c j
 wh:∀a∈c.2.1.2.2.2.1,TOK c a.2.1∧TOK c a.2.2.1
 h0:0≤c.2.1.2.1
 h1:c.2.1.2.1<(c.1.1.2.2.1.length:Int)
 st:∀s∈c.2.1.2.2.2.2.1,InF c.1.1 c.2.1.2.1 s.2.1∧TOK c s.2.2.1
theorem rulel4(c:fC)(hN:NB c.1.1)(hU:UO c.1.1)(l:Zx)(hl:l.length≤aE):∀(n i:Nat),l.length -i<n→i≤l.length→(∀j(hj:j<l.length),j<i→TOK c l[j].2.1∧TOK c l[j].2.2.1)→
 (qi n (l,(l.length:Int),(i:Int),c)=some (.brk c)∧∀a∈l,TOK c a.2.1∧TOK c a.2.2.1)∨qi n (l,(l.length:Int),(i:Int),c)=some (.ret false):=by
 intro n
 have hB:=hB
 induction n with
 |zero=>intro i h;omega
 |
  succ n ih=>
  intro i hn hi hd
  unfold qi at ih ⊢
  rw[aM]
  generalize aK _ n=rec at ih ⊢
  dsimp only
  by_cases h:i<l.length
  ·obtain⟨r,hr,hm⟩:=atomOK_eq c l[i] hN hU
   rw[cH (by omega),ei i,aA (show(i:Int)<(l.length:Int) by omega),cT (t:=aP) h,bu (by omega),hr,aJ]
   cases r with
   |false=>rw[aA (by decide)];exact Or.inr rfl
   |
    true=>
    rw[aC (by decide)]
    exact ih (i+1) (by omega) (by omega) fun j hj hji=>by
     by_cases ej:j=i
     ·subst ej;exact hm rfl
     ·exact hd j hj (by omega)
  ·rw[gu (by omega)]
   refine Or.inl ⟨rfl,fun t ht=>?_⟩
   obtain⟨j,hj,rfl⟩:=gH ht
   exact hd j hj (by omega)
theorem rulel14(c:fC)(hN:NB c.1.1)(h0:Int)(l:Zy)(hl:l.length*80≤aE):∀(n i:Nat)(g:Ze),l.length -i<n→i≤l.length→g.length≤i→(∀j(hj:j<l.length),j<i→InF c.1.1 h0 l[j].2.1∧TOK c l[j].2.2.1)→
 (∃g',mI n (h0,l,(l.length:Int),(i:Int),c,g)=some (.brk g')∧g'.length≤l.length∧∀s∈l,InF c.1.1 h0 s.2.1∧TOK c s.2.2.1)∨mI n (h0,l,(l.length:Int),(i:Int),c,g)=some (.ret false):=by
 intro n
 have hB:=hB
 induction n with
 |zero=>intro i g h;omega
 |
  succ n ih=>
  intro i g hn hi hgl hd
  unfold mI at ih ⊢
  rw[aM]
  generalize aK _ n=rec at ih ⊢
  dsimp only
  by_cases h:i<l.length
  ·rw[cH (by omega),ei i,aA (show(i:Int)<(l.length:Int) by omega),cT (t:=aX) h,bu (by omega)]
   rcases typeOf_eq c.1 h0 l[i].2.1 with⟨hit,e1⟩|⟨_,y,e1⟩
   ·rw[e1,aJ]
    dsimp only
    rw[aC (by decide)]
    by_cases hz:l[i].2.1=0
    ·rw[cH hz,aJ,aA rfl];exact Or.inr rfl
    ·obtain⟨r,hr,hm⟩:=setOK_eq c (nth dY (flds c.1.1 h0) l[i].2.1).2.1 l[i].2.2.1 hN
     rw[aC (show¬decide (l[i].2.1=(0:Int))=true by simpa using hz),hr,aJ,aJ]
     cases r with
     |false=>rw[aA (by decide)];exact Or.inr rfl
     |
      true=>
      rw[aC (by decide),aA (show(g.length+List.length [_])*8≤aE by rw[cM];omega)]
      exact ih (i+1) _ (by omega) (by omega) (by rw[dZ,cM];omega) fun j hj hji=>by
       by_cases ej:j=i
       ·subst ej;exact⟨hit,hm rfl⟩
       ·exact hd j hj (by omega)
   ·rw[e1,aJ]
    dsimp only
    rw[aA (by decide),aJ,aA rfl];exact Or.inr rfl
  ·rw[gu (by omega)]
   refine Or.inl ⟨g,rfl,by omega,fun t ht=>?_⟩
   obtain⟨j,hj,rfl⟩:=gH ht
   exact hd j hj (by omega)
theorem ruleOK_eq(c:fC)(hN:NB c.1.1)(hU:UO c.1.1)(hf:c.2.1.2.2.1.length≤aE)(hw:c.2.1.2.2.2.1.length≤aE)(hs:c.2.1.2.2.2.2.1.length*80≤aE):∃r,f83 c=some r∧(r=true→RK c):=by
 have hB:=hB
 have no:∀x:Zl,x=some false→∃r,x=some r∧(r=true→RK c):=fun x hx=>⟨false,hx,fun h=>(by cases h)⟩
 unfold f83
 rcases fromsOK_eq c hf with⟨e,h1,h3,hfo⟩|e
 ·rw[e,aJ,aC (by decide)]
  by_cases h8:(8:Int)<(c.2.1.2.2.2.1.length:Int)
  ·rw[cu h8];exact no _ rfl
  ·rw[dz h8,aJ,aC (by decide),aH]
   rcases rulel4 c hN hU c.2.1.2.2.2.1 hw (c.2.1.2.2.2.1.length+1) 0 (by omega) (by omega) (fun j hj h=>by omega) with⟨e4,hwh⟩|e4
   ·have e4':qi (Int.toNat (List.length c.2.1.2.2.2.1:Int)+1) (c.2.1.2.2.2.1,(List.length c.2.1.2.2.2.1:Int),0,c)=some (.brk c):=e4
    rw[e4',aH]
    by_cases d1:c.2.1.2.1<0
    ·rw[cH d1];exact no _ rfl
    ·rw[aC (show¬decide (c.2.1.2.1<(0:Int))=true by simpa using d1)]
     by_cases d2:(c.1.1.2.2.1.length:Int)≤c.2.1.2.1
     ·rw[cH d2];exact no _ rfl
     ·rw[aC (show¬decide ((c.1.1.2.2.1.length:Int)≤c.2.1.2.1)=true by simpa using d2),aA (Int.not_lt.1 d1),aA (Int.not_le.1 d2),aJ]
      split
      ·exact no _ rfl
      ·rw[aH]
       dsimp only
       rcases rulel14 c hN c.2.1.2.1 c.2.1.2.2.2.2.1 hs (c.2.1.2.2.2.2.1.length+1) 0 [] (by omega) (by omega) (by simp) (fun j hj h=>by omega) with⟨g,e14,hgl,hst⟩|e14
       ·have e14':mI (Int.toNat (List.length c.2.1.2.2.2.2.1:Int)+1) (c.2.1.2.1,c.2.1.2.2.2.2.1,(List.length c.2.1.2.2.2.2.1:Int),0,c,([]:Ze))=some (.brk g):=e14
        rw[e14',aH]
        obtain⟨q,hq⟩:=diffI_ans g (by omega)
        rw[hq]
        exact⟨q,rfl,fun _=>⟨h1,h3,hfo,hwh,Int.not_lt.1 d1,Int.not_le.1 d2,hst⟩⟩
       ·have e14':mI (Int.toNat (List.length c.2.1.2.2.2.2.1:Int)+1) (c.2.1.2.1,c.2.1.2.2.2.2.1,(List.length c.2.1.2.2.2.2.1:Int),0,c,([]:Ze))=some (.ret false):=e14
        rw[e14',eT];exact no _ rfl
   ·have e4':qi (Int.toNat (List.length c.2.1.2.2.2.1:Int)+1) (c.2.1.2.2.2.1,(List.length c.2.1.2.2.2.1:Int),0,c)=some (.ret false):=e4
    rw[e4',eT];exact no _ rfl
 ·rw[e,aJ,aA (by decide)];exact no _ rfl
theorem schemal9(x:ZD)(a b:Int)(w:Tq)(c:dt):∀(n i:Nat),4 -i<n→i≤4→qh n (x,a,b,w,(i:Int),c)=some (.brk (x,a,b,c))∨qh n (x,a,b,w,(i:Int),c)=some (.ret (.ret false)):=by
 intro n
 induction n with
 |zero=>intro i h;omega
 |
  succ n ih=>
  intro i hn hi
  unfold qh at ih ⊢
  rw[aM]
  generalize aK _ n=rec at ih ⊢
  dsimp only
  by_cases h:i<4
  ·rw[cH (by omega),ei i,aA (show(i:Int)<4 by omega),bu (by omega)]
   have h2:∀v:Bool,(if v=true then(bZ (bZ (some false))) else(rec (x,a,b,w,((i+1:Nat):Int),c)))=some (.brk (x,a,b,c))∨(if v=true then(bZ (bZ (some false))) else(rec (x,a,b,w,((i+1:Nat):Int),c)))=some (.ret (.ret false)):=fun v=>by
    cases v with
    |true=>exact Or.inr rfl
    |false=>exact ih (i+1) (by omega) (by omega)
   split
   ·exact h2 true
   ·exact h2 _
  ·rw[gu (by omega)]
   exact Or.inl rfl
theorem schemal4(c:dt)(l:ZD)(hl:l.length≤aE)(hn:∀f∈l,(namesOf f.2.1).length≤aE):∀(n i:Nat),l.length -i<n→i≤l.length→(∀j(hj:j<l.length),j<i→f79 c l[j].2.1=some true)→
 (aG (U:=Unit) (xI n (l,(l.length:Int),(i:Int),c)) (fun _=>some true)=some true∧∀f∈l,f79 c f.2.1=some true)∨aG (U:=Unit) (xI n (l,(l.length:Int),(i:Int),c)) (fun _=>some true)=some false:=by
 intro n
 have hB:=hB
 induction n with
 |zero=>intro i h;omega
 |
  succ n ih=>
  intro i hn' hi hd
  unfold xI at ih ⊢
  rw[aM]
  generalize aK _ n=rec at ih ⊢
  dsimp only
  by_cases h:i<l.length
  ·obtain⟨r,hr⟩:=typeOK_ans c l[i].2.1 (hn _ (jn h))
   rw[cH (by omega),ei i,aA (show(i:Int)<(l.length:Int) by omega),cT (t:=dY) h,hr,aJ]
   cases r with
   |false=>rw[aA (by decide)];exact Or.inr rfl
   |
    true=>
    rw[aC (by decide)]
    have e9:=schemal9 l (l.length:Int) (i:Int) l[i].2.2.1 c (Int.toNat (4:Int)+1) 0 (by decide) (by decide)
    rcases e9 with e9|e9
    ·have e9':qh (Int.toNat (4:Int)+1) (l,(l.length:Int),(i:Int),l[i].2.2.1,0,c)=some (.brk (l,(l.length:Int),(i:Int),c)):=e9
     rw[e9',aH]
     dsimp only
     rw[bu (by omega)]
     exact ih (i+1) (by omega) (by omega) fun j hj hji=>by
      by_cases ej:j=i
      ·subst ej;exact hr
      ·exact hd j hj (by omega)
    ·have e9':qh (Int.toNat (4:Int)+1) (l,(l.length:Int),(i:Int),l[i].2.2.1,0,c)=some (.ret (.ret false)):=e9
     rw[e9',eT]
     exact Or.inr rfl
  ·rw[gu (by omega)]
   refine Or.inl ⟨rfl,fun t ht=>?_⟩
   obtain⟨j,hj,rfl⟩:=gH ht
   exact hd j hj (by omega)
theorem schemaOK_eq(c:dt)(x:kX)(hl:x.2.2.2.2.1.length≤aE)(hn:∀f∈x.2.2.2.2.1,(namesOf f.2.1).length≤aE):∃r,f87 c x=some r∧(r=true→1≤x.2.2.2.2.1.length∧∀f∈x.2.2.2.2.1,f79 c f.2.1=some true):=by
 have no:∀y:Zl,y=some false→∃r,y=some r∧(r=true→1≤x.2.2.2.2.1.length∧∀f∈x.2.2.2.2.1,f79 c f.2.1=some true):=fun y hy=>⟨false,hy,fun h=>(by cases h)⟩
 unfold f87
 by_cases h1:x.2.2.1<0
 ·rw[cH h1];exact no _ rfl
 ·rw[aC (show¬decide (x.2.2.1<(0:Int))=true by simpa using h1)]
  by_cases h2:(c.1.1.length:Int)≤x.2.2.1
  ·rw[cH h2];exact no _ rfl
  ·rw[aC (show¬decide ((c.1.1.length:Int)≤x.2.2.1)=true by simpa using h2)]
   by_cases h3:x.2.2.2.1<1
   ·rw[cH h3];exact no _ rfl
   ·rw[aC (show¬decide (x.2.2.2.1<(1:Int))=true by simpa using h3)]
    by_cases h4:(255:Int)<x.2.2.2.1
    ·rw[cH h4];exact no _ rfl
    ·rw[aC (show¬decide ((255:Int)<x.2.2.2.1)=true by simpa using h4)]
     by_cases h5:(x.2.2.2.2.1.length:Int)<1
     ·rw[cH h5];exact no _ rfl
     ·rw[aC (show¬decide ((x.2.2.2.2.1.length:Int)<(1:Int))=true by simpa using h5)]
      by_cases h6:(12:Int)<(x.2.2.2.2.1.length:Int)
      ·rw[cH h6];exact no _ rfl
      ·rw[aC (show¬decide ((12:Int)<(x.2.2.2.2.1.length:Int))=true by simpa using h6),aA (show(0:Int)<(x.2.2.2.2.1.length:Int) by omega),aJ]
       split
       ·exact no _ rfl
       ·rw[aH]
        dsimp only
        rcases schemal4 c x.2.2.2.2.1 hl hn (x.2.2.2.2.1.length+1) 0 (by omega) (by omega) (fun j hj h=>by omega) with⟨e,h⟩|e
        ·exact⟨true,e,fun _=>⟨by omega,h⟩⟩
        ·exact no _ e
theorem purposeOK_ans(c:dt)(p:mU)(hp:p.2.1.length≤aE):∃r,f90 c p=some r:=by
 have hB:=hB
 have key:∀(n i:Nat),p.2.1.length -i<n→i≤p.2.1.length→qj n (p.2.1,(p.2.1.length:Int),(i:Int),c,p)=some (.brk p)∨qj n (p.2.1,(p.2.1.length:Int),(i:Int),c,p)=some (.ret false):=by
  intro n
  induction n with
  |zero=>intro i h;omega
  |
   succ n ih=>
   intro i hn hi
   unfold qj at ih ⊢
   rw[aM]
   generalize aK _ n=rec at ih ⊢
   dsimp only
   by_cases h:i<p.2.1.length
   ·rw[cH (by omega),ei i,aA (show(i:Int)<(p.2.1.length:Int) by omega),bu (by omega)]
    rcases typeOf_eq c (nth eA p.2.1 (i:Int)).2.2.1 (nth eA p.2.1 (i:Int)).2.2.2.1 with⟨_,e1⟩|⟨_,y,e1⟩
    ·rw[e1,aJ]
     dsimp only
     rw[aC (by decide)]
     exact ih (i+1) (by omega) (by omega)
    ·rw[e1,aJ]
     exact Or.inr rfl
   ·rw[gu (by omega)]
    exact Or.inl rfl
 unfold f90
 have e:=key (Int.toNat (List.length p.2.1:Int)+1) 0 (by omega) (by omega)
 rcases e with e|e
 ·have e':qj (Int.toNat (List.length p.2.1:Int)+1) (p.2.1,(List.length p.2.1:Int),0,c,p)=some (.brk p):=e
  rw[e',aH]
  refine bindT ?_ fun v=>⟨v,rfl⟩
  repeat' (first|exact⟨_,rfl⟩|split)
 ·have e':qj (Int.toNat (List.length p.2.1:Int)+1) (p.2.1,(List.length p.2.1:Int),0,c,p)=some (.ret false):=e
  rw[e',eT]
  exact⟨_,rfl⟩
structure SW(s:cz):Prop where
 units:s.2.1.length≤aE
 schemas:s.2.2.1.length≤aE
 rules:s.2.2.2.1.length≤aE
 purposes:s.2.2.2.2.2.1.length≤aE
 nb:NB s
 rl:∀r∈s.2.2.2.1,r.2.2.1.length≤aE∧r.2.2.2.1.length≤aE∧r.2.2.2.2.1.length*80≤aE
 may:∀p∈s.2.2.2.2.2.1,p.2.1.length≤aE
structure TG(s:cz):Prop where
 many:s.2.2.1.length≤16
 fields:∀x∈s.2.2.1,1≤x.2.2.2.2.1.length
 ok:∀x∈s.2.2.1,∀f∈x.2.2.2.2.1,f79 (s,()) f.2.1=some true
 units:UO s
 rules:∀r∈s.2.2.2.1,RK ((s,()),(r,()))
theorem limited_eq(s:cz)(h:s.2.2.2.2.2.1.length≤aE):∃r,f81 (s,())=some r∧(r=true→s.2.2.1.length≤16):=by
 have no:∀y:Zl,y=some false→∃r,y=some r∧(r=true→s.2.2.1.length≤16):=fun y hy=>⟨false,hy,fun h=>(by cases h)⟩
 unfold f81
 obtain⟨i,hi,_⟩:=Re dk f132 s.2.2.2.2.2.1 (fun p=>decide ((64:Int)<(p.2.1.length:Int))) (fun x _=>rfl) h
 have e1:sh s.2.2.2.2.2.1=some (decide ((0:Int)≤i)):=by
  unfold sh
  have:xE s.2.2.2.2.2.1=some i:=hi
  rw[this];rfl
 dsimp only
 by_cases h1:(8:Int)<(s.1.length:Int)
 ·rw[cH h1];exact no _ rfl
 ·rw[aC (show¬decide ((8:Int)<(s.1.length:Int))=true by simpa using h1)]
  by_cases h2:(64:Int)<(s.2.1.length:Int)
  ·rw[cH h2];exact no _ rfl
  ·rw[aC (show¬decide ((64:Int)<(s.2.1.length:Int))=true by simpa using h2)]
   by_cases h3:(16:Int)<(s.2.2.1.length:Int)
   ·rw[cH h3];exact no _ rfl
   ·rw[aC (show¬decide ((16:Int)<(s.2.2.1.length:Int))=true by simpa using h3)]
    have yes:∀y:Zl,(∃r,y=some r)→∃r,y=some r∧(r=true→s.2.2.1.length≤16):=fun y ⟨r,hr⟩=>⟨r,hr,fun _=>by omega⟩
    apply yes
    refine bindT ?_ fun v=>?_
    ·repeat' (first|exact⟨_,rfl⟩|split)
    ·cases v with
     |true=>exact⟨_,rfl⟩
     |false=>rw[aC (by decide),e1];exact⟨_,rfl⟩
theorem allUnit_ans(s:cz)(h:s.2.1.length≤aE):∃r,xH s.2.1 (s,())=some r:=by
 have hp:∀x∈s.2.1,oX x (s,())=some (!((f85 (s,()) x).getD false),(s,())):=fun x _=>by
  obtain⟨r,hr⟩:=unitOK_ans (s,()) x
  unfold oX
  rw[hr];rfl
 obtain⟨i,hi,_⟩:=Ho aS oX s.2.1 (s,()) _ hp h
 have e:xF s.2.1 (s,())=some (i,(s,())):=hi
 unfold xH xG
 rw[e];exact⟨_,rfl⟩
theorem allSchema_eq(s:cz)(hs:SW s):∃r,xM s.2.2.1 (s,())=some r∧(r=true→∀x∈s.2.2.1,1≤x.2.2.2.2.1.length∧∀f∈x.2.2.2.2.1,f79 (s,()) f.2.1=some true):=by
 have hp:∀x∈s.2.2.1,oY x (s,())=some (!((f87 (s,()) x).getD false),(s,())):=fun x hx=>by
  obtain⟨r,hr,_⟩:=schemaOK_eq (s,()) x (hs.nb x hx).1 (hs.nb x hx).2
  unfold oY
  rw[hr];rfl
 obtain⟨i,hi,him⟩:=Ho bG oY s.2.2.1 (s,()) _ hp hs.schemas
 have e:xJ s.2.2.1 (s,())=some (i,(s,())):=hi
 unfold xM xL
 rw[e]
 refine⟨_,rfl,fun hr x hx=>?_⟩
 obtain⟨r,hr2,hm⟩:=schemaOK_eq (s,()) x (hs.nb x hx).1 (hs.nb x hx).2
 cases r with
 |true=>exact hm rfl
 |
  false=>
  have:0≤i:=him.2 ⟨x,hx,by rw[hr2];rfl⟩
  simp[this] at hr
theorem allRule_eq(s:cz)(hs:SW s)(hU:UO s):∃r,xQ s.2.2.2.1 (s,())=some r∧(r=true→∀x∈s.2.2.2.1,RK ((s,()),(x,()))):=by
 have hk:=fun x(hx:x∈s.2.2.2.1)=>ruleOK_eq ((s,()),(x,())) hs.nb hU (hs.rl x hx).1 (hs.rl x hx).2.1 (hs.rl x hx).2.2
 have hp:∀x∈s.2.2.2.1,oZ x (s,())=some (!((f83 ((s,()),(x,()))).getD false),(s,())):=fun x hx=>by
  obtain⟨r,hr,_⟩:=hk x hx
  unfold oZ BM
  rw[hr];rfl
 obtain⟨i,hi,him⟩:=Ho bz oZ s.2.2.2.1 (s,()) _ hp hs.rules
 have e:xO s.2.2.2.1 (s,())=some (i,(s,())):=hi
 unfold xQ xP
 rw[e]
 refine⟨_,rfl,fun hr x hx=>?_⟩
 obtain⟨r,hr2,hm⟩:=hk x hx
 cases r with
 |true=>exact hm rfl
 |
  false=>
  have:0≤i:=him.2 ⟨x,hx,by rw[hr2];rfl⟩
  simp[this] at hr
theorem allPurpose_ans(s:cz)(hs:SW s):∃r,xT s.2.2.2.2.2.1 (s,())=some r:=by
 have hp:∀x∈s.2.2.2.2.2.1,o9 x (s,())=some (!((f90 (s,()) x).getD false),(s,())):=fun x hx=>by
  obtain⟨r,hr⟩:=purposeOK_ans (s,()) x (hs.may x hx)
  unfold o9
  rw[hr];rfl
 obtain⟨i,hi,_⟩:=Ho dk o9 s.2.2.2.2.2.1 (s,()) _ hp hs.purposes
 have e:xR s.2.2.2.2.2.1 (s,())=some (i,(s,())):=hi
 unfold xT xS
 rw[e];exact⟨_,rfl⟩
theorem tcheck_eq(s:cz)(hs:SW s):∃r,f57 s=some r∧(r=0→TG s):=by
 have no:∀(y:ZM)(z:Int),z≠0→y=some z→∃r,y=some r∧(r=0→TG s):=fun y z hz hy=>⟨z,hy,fun h=>absurd h hz⟩
 unfold f57
 obtain⟨b,hb,hbm⟩:=limited_eq s hs.purposes
 rw[hb,aJ]
 cases b with
 |false=>rw[aA (by decide)];exact no _ 2 (by decide) rfl
 |
  true=>
  rw[aC (by decide)]
  obtain⟨b1,hb1⟩:=allUnit_ans s hs.units
  rw[hb1,aJ]
  cases b1 with
  |false=>exact no _ 120 (by decide) rfl
  |
   true=>
   rw[aC (by decide)]
   obtain⟨b2,hb2,hm2⟩:=allSchema_eq s hs
   rw[hb2,aJ]
   cases b2 with
   |false=>exact no _ 120 (by decide) rfl
   |
    true=>
    rw[aC (by decide)]
    have hU:UO s:=fun x hx f hf h1=>typeOK_unit ((hm2 rfl x hx).2 f hf) h1
    obtain⟨b3,hb3,hm3⟩:=allRule_eq s hs hU
    rw[hb3,aJ]
    cases b3 with
    |false=>exact no _ 120 (by decide) rfl
    |
     true=>
     rw[aC (by decide)]
     obtain⟨b4,hb4⟩:=allPurpose_ans s hs
     rw[hb4,aJ,aJ]
     cases b4 with
     |false=>exact no _ 120 (by decide) rfl
     |true=>exact⟨0,rfl,fun _=>⟨hbm rfl,fun x hx=>(hm2 rfl x hx).1,fun x hx=>(hm2 rfl x hx).2,hU,hm3 rfl⟩⟩
structure SS(s:cz):Prop where
 issuers:s.1.length≤aE
 units:s.2.1.length≤aE
 schemas:s.2.2.1.length≤aE
 rules:s.2.2.2.1.length≤aE
 converts:s.2.2.2.2.1.length≤aE
 purposes:s.2.2.2.2.2.1.length≤aE
 fields:∀x∈s.2.2.1,x.2.2.2.2.1.length≤aE∧∀f∈x.2.2.2.2.1,(namesOf f.2.1).length≤aE
 depends:∀x∈s.2.2.1,x.2.2.2.2.2.1.length≤aE∧∀d∈x.2.2.2.2.2.1,d.1.length≤aE∧d.2.2.1.length≤aE
 rl:∀r∈s.2.2.2.1,r.2.2.1.length≤aE∧r.2.2.2.1.length≤aE∧r.2.2.2.2.1.length≤aE
 mv:∀c∈s.2.2.2.2.1,c.2.2.2.2.1.length≤aE
 may:∀p∈s.2.2.2.2.2.1,p.2.1.length≤aE
theorem eqS2(x y:ZF)(hl:y.length≤aE):∃r,f97 x y=some r:=Hd .str (fun a b=>decide (a=b)) x y fun e=>e▸hl
theorem eqI2(x y:Ze)(hl:y.length≤aE):∃r,f63 x y=some r:=Hd (.int .i64) (fun a b=>decide (a=b)) x y fun e=>e▸hl
theorem sameFields_ans(a b:NQ)(h:(namesOf b.2.1).length≤aE):∃r,f153 a b=some r:=by
 obtain⟨q,hq⟩:=eqS2 (namesOf a.2.1) (namesOf b.2.1) h
 unfold f153
 refine bindT ?_ fun v=>⟨v,rfl⟩
 unfold namesOf at hq
 simp only[hq,aJ]
 repeat' (first|exact⟨_,rfl⟩|split)
theorem sameDepends_ans(a b:ja)(h:b.1.length≤aE)(h2:b.2.2.1.length≤aE):∃r,f155 a b=some r:=by
 obtain⟨q,hq⟩:=eqS2 a.1 b.1 h
 obtain⟨q2,hq2⟩:=eqI2 a.2.2.1 b.2.2.1 h2
 unfold f155
 refine bindT ?_ fun v=>⟨v,rfl⟩
 simp only[hq,hq2,aJ]
 repeat' (first|exact⟨_,rfl⟩|split)
theorem sameSchemas_ans(a b:kX)(h1:b.2.2.2.2.1.length≤aE∧∀f∈b.2.2.2.2.1,(namesOf f.2.1).length≤aE)(h2:b.2.2.2.2.2.1.length≤aE∧∀d∈b.2.2.2.2.2.1,d.1.length≤aE∧d.2.2.1.length≤aE):∃r,f100 a b=some r:=by
 obtain⟨q,hq⟩:∃r,wY a.2.2.2.2.1 b.2.2.2.2.1=some r:=NI dY f153 _ _ (fun x _ y hy=>sameFields_ans x y (h1.2 y hy)) fun e=>e▸h1.1
 obtain⟨q2,hq2⟩:∃r,wZ a.2.2.2.2.2.1 b.2.2.2.2.2.1=some r:=NI ew f155 _ _ (fun x _ y hy=>sameDepends_ans x y (h2.2 y hy).1 (h2.2 y hy).2) fun e=>e▸h2.1
 unfold f100
 refine bindT ?_ fun v=>⟨v,rfl⟩
 simp only[hq,hq2,aJ]
 repeat' (first|exact⟨_,rfl⟩|split)
theorem sameRules_ans(a b:dq)(h:b.2.2.1.length≤aE∧b.2.2.2.1.length≤aE∧b.2.2.2.2.1.length≤aE):∃r,f102 a b=some r:=by
 obtain⟨q1,hq1⟩:∃r,f156 a.2.2.1 b.2.2.1=some r:=Hd aL (fun x y=>aY aL x y) _ _ fun e=>e▸h.1
 obtain⟨q2,hq2⟩:∃r,f157 a.2.2.2.1 b.2.2.2.1=some r:=Hd aP (fun x y=>aY aP x y) _ _ fun e=>e▸h.2.1
 obtain⟨q3,hq3⟩:∃r,f158 a.2.2.2.2.1 b.2.2.2.2.1=some r:=Hd aX (fun x y=>aY aX x y) _ _ fun e=>e▸h.2.2
 unfold f102
 refine bindT ?_ fun v=>⟨v,rfl⟩
 simp only[hq1,hq2,hq3,aJ]
 repeat' (first|exact⟨_,rfl⟩|split)
theorem sameConverts_ans(a b:pZ)(h:b.2.2.2.2.1.length≤aE):∃r,f104 a b=some r:=by
 obtain⟨q1,hq1⟩:∃r,f159 a.2.2.2.2.1 b.2.2.2.2.1=some r:=Hd aS (fun x y=>aY aS x y) _ _ fun e=>e▸h
 unfold f104
 refine bindT ?_ fun v=>⟨v,rfl⟩
 simp only[hq1,aJ]
 repeat' (first|exact⟨_,rfl⟩|split)
theorem samePurposes_ans(a b:mU)(h:b.2.1.length≤aE):∃r,f106 a b=some r:=by
 obtain⟨q1,hq1⟩:∃r,f160 a.2.1 b.2.1=some r:=Hd eA (fun x y=>aY eA x y) _ _ fun e=>e▸h
 unfold f106
 refine bindT ?_ fun v=>⟨v,rfl⟩
 simp only[hq1,aJ]
 repeat' (first|exact⟨_,rfl⟩|split)
theorem same_ans(a s:cz)(hs:SS s):∃r,f62 a s=some r:=by
 obtain⟨q1,hq1⟩:=eqS2 a.1 s.1 hs.issuers
 obtain⟨q2,hq2⟩:∃r,f98 a.2.1 s.2.1=some r:=Hd aS (fun x y=>aY aS x y) _ _ fun e=>e▸hs.units
 obtain⟨q3,hq3⟩:∃r,AW a.2.2.1 s.2.2.1=some r:=NI bG f100 _ _ (fun x _ y hy=>sameSchemas_ans x y (hs.fields y hy) (hs.depends y hy)) fun e=>e▸hs.schemas
 obtain⟨q4,hq4⟩:∃r,xB a.2.2.2.1 s.2.2.2.1=some r:=NI bz f102 _ _ (fun x _ y hy=>sameRules_ans x y (hs.rl y hy)) fun e=>e▸hs.rules
 obtain⟨q5,hq5⟩:∃r,xC a.2.2.2.2.1 s.2.2.2.2.1=some r:=NI fa f104 _ _ (fun x _ y hy=>sameConverts_ans x y (hs.mv y hy)) fun e=>e▸hs.converts
 obtain⟨q6,hq6⟩:∃r,xD a.2.2.2.2.2.1 s.2.2.2.2.2.1=some r:=NI dk f106 _ _ (fun x _ y hy=>samePurposes_ans x y (hs.may y hy)) fun e=>e▸hs.purposes
 unfold f62
 refine bindT ?_ fun v=>⟨v,rfl⟩
 simp only[hq1,hq2,hq3,hq4,hq5,hq6,aJ]
 repeat' (first|exact⟨_,rfl⟩|split)
theorem depHas_ans(a b:Int)(h:0≤b):∃r,f208 a b=some r:=⟨_,aA h⟩
theorem depl3(m:Int)(d:ja)(l:Ze)(hl:l.length≤aE):∀(n i:Nat)(e:Int),l.length -i<n→i≤l.length→(∃e',mJ n (m,e,l,(l.length:Int),(i:Int),d)=some (.brk (m,e',d)))∨mJ n (m,e,l,(l.length:Int),(i:Int),d)=some (.ret false):=by
 intro n
 have hB:=hB
 induction n with
 |zero=>intro i e h;omega
 |
  succ n ih=>
  intro i e hn hi
  unfold mJ at ih ⊢
  rw[aM]
  generalize aK _ n=rec at ih ⊢
  dsimp only
  by_cases h:i<l.length
  ·rw[cH (by omega),ei i,aA (show(i:Int)<(l.length:Int) by omega),bu (by omega)]
   by_cases h0:nth (.int .i64) l (i:Int)<(0:Int)
   ·rw[cH h0];exact Or.inr rfl
   ·rw[aC (show¬decide (nth (.int .i64) l (i:Int)<(0:Int))=true by simpa using h0)]
    obtain⟨q,hq⟩:=depHas_ans e (nth (.int .i64) l (i:Int)) (Int.not_lt.1 h0)
    rw[hq]
    have key:∀v:Bool,(∃e',(if v=true then(bZ (some false)) else(if 0≤(nth (.int .i64) l (i:Int)) then(rec (m,ib .or .u64 e (IntKind.u64.wrap ((1:Int)*2^(min (Int.toNat (nth (.int .i64) l (i:Int))) 64))),l,(l.length:Int),((i+1:Nat):Int),d)) else none))=some (.brk (m,e',d)))∨(if v=true then(bZ (some false)) else(if 0≤(nth (.int .i64) l (i:Int)) then(rec (m,ib .or .u64 e (IntKind.u64.wrap ((1:Int)*2^(min (Int.toNat (nth (.int .i64) l (i:Int))) 64))),l,(l.length:Int),((i+1:Nat):Int),d)) else none))=some (.ret false):=fun v=>by
     cases v with
     |true=>exact Or.inr rfl
     |
      false=>
      rw[aC (by decide),aA (Int.not_lt.1 h0)]
      exact ih (i+1) _ (by omega) (by omega)
    split
    ·exact key true
    ·exact key q
  ·rw[gu (by omega)]
   exact Or.inl ⟨e,rfl⟩
theorem depValid_ans(d:ja)(m:Int)(hl:d.2.2.1.length≤aE):∃r,f143 d m=some r:=by
 unfold f143
 have e:=depl3 m d d.2.2.1 hl (Int.toNat (List.length d.2.2.1:Int)+1) 0 0 (by omega) (by omega)
 rcases e with⟨e',e⟩|e
 ·have h:mJ (Int.toNat (List.length d.2.2.1:Int)+1) (m,0,d.2.2.1,(List.length d.2.2.1:Int),0,d)=some (.brk (m,e',d)):=e
  rw[h,aH]
  dsimp only
  refine bindT ?_ fun v=>⟨v,rfl⟩
  by_cases h0:0≤d.2.2.2.1
  ·obtain⟨q,hq⟩:=depHas_ans e' d.2.2.2.1 h0
   rw[hq]
   repeat' (first|exact⟨_,rfl⟩|split)
  ·rw[aC (show¬decide ((0:Int)≤d.2.2.2.1)=true by simpa using h0)]
   repeat' (first|exact⟨_,rfl⟩|split)
 ·have h:mJ (Int.toNat (List.length d.2.2.1:Int)+1) (m,0,d.2.2.1,(List.length d.2.2.1:Int),0,d)=some (.ret false):=e
  rw[h,eT]
  exact⟨_,rfl⟩
theorem depl4(x:kX)(l:List ja)(hl:l.length≤aE)(hd:∀d∈l,d.2.2.1.length≤aE):∀(n i:Nat),l.length -i<n→i≤l.length→∃r,aG (U:=Unit) (tW n (l,(l.length:Int),(i:Int),x)) (fun _=>some (0:Int))=some r:=by
 intro n
 have hB:=hB
 induction n with
 |zero=>intro i h;omega
 |
  succ n ih=>
  intro i hn hi
  unfold tW at ih ⊢
  rw[aM]
  generalize aK _ n=rec at ih ⊢
  dsimp only
  by_cases h:i<l.length
  ·obtain⟨r,hr⟩:=depValid_ans l[i] (x.2.2.2.2.1.length:Int) (hd _ (jn h))
   rw[cH (by omega),ei i,aA (show(i:Int)<(l.length:Int) by omega),cT (t:=ew) h,bu (by omega),hr,aJ]
   cases r with
   |false=>exact⟨_,rfl⟩
   |true=>rw[aC (by decide)];exact ih (i+1) (by omega) (by omega)
  ·rw[gu (by omega)]
   exact⟨_,rfl⟩
theorem depCheck_ans(x:kX)(hl:x.2.2.2.2.2.1.length≤aE)(hd:∀d∈x.2.2.2.2.2.1,d.2.2.1.length≤aE):∃r,f91 x=some r:=by
 unfold f91
 have h4:∃r,aG (U:=Unit) (tW (Int.toNat (List.length x.2.2.2.2.2.1:Int)+1) (x.2.2.2.2.2.1,(List.length x.2.2.2.2.2.1:Int),0,x)) (fun _=>some (0:Int))=some r:=depl4 x _ hl hd _ 0 (by omega) (by omega)
 have h2:∀v:Bool,∃r,aG (U:=kX) (if v=true then(bZ (some (130:Int))) else(some (.brk x))) (fun v1=>aG (U:=Unit) (tW (Int.toNat (List.length v1.2.2.2.2.2.1:Int)+1) (v1.2.2.2.2.2.1,(List.length v1.2.2.2.2.2.1:Int),0,v1)) fun _=>some (0:Int))=some r:=fun v=>by
  cases v with
  |true=>exact⟨_,rfl⟩
  |false=>exact h4
 split
 ·exact h2 true
 ·split
  ·exact h2 true
  ·exact h2 _
theorem determined_ans(s:cz)(hs:SS s):∃r,f58 s=some r:=by
 have hB:=hB
 have key:∀(n i:Nat),s.2.2.1.length -i<n→i≤s.2.2.1.length→∃r,aG (U:=Unit) (BP n (s.2.2.1,(s.2.2.1.length:Int),(i:Int))) (fun _=>some (0:Int))=some r:=by
  intro n
  have hl:=hs.schemas
  induction n with
  |zero=>intro i h;omega
  |
   succ n ih=>
   intro i hn hi
   unfold BP at ih ⊢
   rw[aM]
   generalize aK _ n=rec at ih ⊢
   dsimp only
   by_cases h:i<s.2.2.1.length
   ·have hd:=hs.depends _ (jn h)
    obtain⟨r,hr⟩:=depCheck_ans s.2.2.1[i] hd.1 fun d hdm=>(hd.2 d hdm).2
    rw[cH (by omega),ei i,aA (show(i:Int)<(s.2.2.1.length:Int) by omega),cT (t:=bG) h,bu (by omega),hr,aJ]
    split
    ·exact⟨_,rfl⟩
    ·exact ih (i+1) (by omega) (by omega)
   ·rw[gu (by omega)]
    exact⟨_,rfl⟩
 exact key _ 0 (by omega) (by omega)
theorem whole_ans(l:Ze)(m:Int)(hl:l.length≤1000000):∃b d,BV l m []=some (b,d):=by
 have hB:=hB
 have key:∀(n i:Nat)(d:Zm),l.length -i<n→i≤l.length→d.length≤i→∃b d',aG (U:=Ze×Int×Zm) (qn n (l,m,l,(l.length:Int),(i:Int),d)) (fun u=>match u with|⟨a,b,c⟩=>some (decide ((List.length a:Int)=b),c))=some (b,d'):=by
  intro n
  induction n with
  |zero=>intro i d h;omega
  |
   succ n ih=>
   intro i d hn hi hd
   unfold qn at ih ⊢
   rw[aM]
   generalize aK _ n=rec at ih ⊢
   dsimp only
   by_cases h:i<l.length
   ·rw[cH (by omega),ei i,aA (show(i:Int)<(l.length:Int) by omega)]
    split
    ·exact⟨_,_,rfl⟩
    ·rw[aA (by omega),bu (by omega)]
     exact ih (i+1) _ (by omega) (by omega) (cG (dr (kt:=.int .i64)) (by omega))
   ·rw[gu (by omega)]
    exact⟨_,_,rfl⟩
 exact key _ 0 [] (by omega) (by omega) (by simp)
theorem Ranked.len{s:cz}{l:Ze}(h:Ranked s l):l.length≤s.2.2.1.length:=fV _ l h.nod fun x hx=>(h.all x).1 hx
theorem TG.sb{s:cz}(h:TG s)(hs:SW s):SB s:=⟨by have:=h.many;omega,hs.rules,fun r hr=>(hs.rl r hr).1⟩
theorem rcheck_eq(s:cz)(hs:SW s):∃r,f92 s=some r∧(r=0→TG s):=by
 unfold f92
 obtain⟨r,hr,hm⟩:=tcheck_eq s hs
 rw[hr,aJ]
 by_cases h:r=0
 ·rw[aC (by simp[h])]
  have hT:=hm h
  obtain⟨l,ok,e,ho,_⟩:=Aa (hT.sb hs)
  rw[ho,aJ]
  have yes:∀y:ZM,(∃z,y=some z)→∃z,y=some z∧(z=0→TG s):=fun y ⟨z,hz⟩=>⟨z,hz,fun _=>hT⟩
  apply yes
  dsimp only
  repeat' (first|exact⟨_,rfl⟩|split)
 ·rw[aA (by simp[h])]
  exact⟨r,rfl,fun h'=>absurd h' h⟩
theorem ordered_eq(s:cz)(hs:SW s):∃r,f59 s=some r∧(r=0→TG s∧∃l,f61 s=some (l,true,0)∧Ranked s l):=by
 unfold f59
 obtain⟨r,hr,hm⟩:=rcheck_eq s hs
 rw[hr,aJ]
 by_cases h:r=0
 ·rw[aC (by simp[h])]
  have hT:=hm h
  obtain⟨l,ok,e,ho,hk⟩:=Aa (hT.sb hs)
  rw[ho,aJ]
  dsimp only
  by_cases he:e=0
  ·subst he
   rw[aC (by decide)]
   cases ok with
   |false=>rw[aA (by decide)];exact⟨141,rfl,fun h'=>absurd h' (by decide)⟩
   |
    true=>
    rw[aC (by decide)]
    have hR:=hk rfl rfl fun r hr=>⟨(hT.rules r hr).h0,(hT.rules r hr).h1⟩
    obtain⟨b,d,hw⟩:=whole_ans l (s.2.2.1.length:Int) (by have:=hR.len;have:=hT.many;omega)
    rw[hw,aJ]
    have yes:∀y:ZM,(∃z,y=some z)→∃z,y=some z∧(z=0→TG s∧∃l',some (l,true,(0:Int))=some (l',true,0)∧Ranked s l'):=fun y ⟨z,hz⟩=>⟨z,hz,fun _=>⟨hT,l,rfl,hR⟩⟩
    apply yes
    dsimp only
    repeat' (first|exact⟨_,rfl⟩|split)
  ·rw[aA (by simp[he])]
   exact⟨e,rfl,fun h'=>absurd h' he⟩
 ·rw[aA (by simp[h])]
  exact⟨r,rfl,fun h'=>absurd h' h⟩
theorem value_ans(s:cz)(hN:NB s)(a b v:Int):∃r,f54 s a b v=some r:=by
 unfold f54
 rcases typeOf_eq (s,()) a b with⟨hi,e⟩|⟨_,y,e⟩
 ·rw[e,aJ]
  dsimp only
  rw[aA rfl]
  have hm:=hi.mem
  obtain⟨q,hq⟩:=typeOK_ans (s,()) (nth dY (flds s a) b).2.1 ((hN _ hm.1).2 _ hm.2)
  refine bindT ?_ fun v=>⟨v,rfl⟩
  have hq':f79 (s,()) (nth dY (flds (s,()).1 a) b).2.1=some q:=hq
  rw[hq',aJ]
  repeat' (first|exact⟨_,rfl⟩|split)
 ·rw[e,aJ]
  exact⟨_,rfl⟩
theorem person_eq(s:cz)(hN:NB s)(a:Int):∃r,f144 s a=some r∧(r=true→0≤a∧a<(s.2.2.1.length:Int)):=by
 have hB:=hB
 have no:∀y:Zl,y=some false→∃r,y=some r∧(r=true→0≤a∧a<(s.2.2.1.length:Int)):=fun y hy=>⟨false,hy,fun h=>(by cases h)⟩
 unfold f144
 by_cases h0:a<0
 ·rw[cH h0];exact no _ rfl
 ·rw[aC (show¬decide (a<(0:Int))=true by simpa using h0)]
  by_cases h1:(s.2.2.1.length:Int)≤a
  ·rw[cu h1];exact no _ rfl
  ·rw[dz h1,aJ,aC (by decide),aH]
   dsimp only
   rw[aA (Int.not_lt.1 h0),aA (Int.not_le.1 h1)]
   have yes:∀y:Zl,(∃z,y=some z)→∃z,y=some z∧(z=true→0≤a∧a<(s.2.2.1.length:Int)):=fun y ⟨z,hz⟩=>⟨z,hz,fun _=>⟨Int.not_lt.1 h0,Int.not_le.1 h1⟩⟩
   apply yes
   have hl:=(hN _ (dv (t:=bG) (l:=s.2.2.1) (a:=a) (Int.not_lt.1 h0) (Int.not_le.1 h1))).1
   generalize (nth bG s.2.2.1 a).2.2.2.2.1=l at hl ⊢
   have key:∀(n i:Nat),l.length -i<n→i≤l.length→mN n (a,l,l,(l.length:Int),(i:Int),s)=some (.brk l)∨mN n (a,l,l,(l.length:Int),(i:Int),s)=some (.ret false):=by
    intro n
    induction n with
    |zero=>intro i h;omega
    |
     succ n ih=>
     intro i hn hi
     unfold mN at ih ⊢
     rw[aM]
     generalize aK _ n=rec at ih ⊢
     dsimp only
     by_cases h:i<l.length
     ·rw[cH (by omega),ei i,aA (show(i:Int)<(l.length:Int) by omega),bu (by omega)]
      obtain⟨q,hq⟩:=value_ans s hN a (i:Int) (nth dY l (i:Int)).2.1.2.1
      rw[hq,aJ]
      cases q with
      |false=>exact Or.inr rfl
      |true=>rw[aC (by decide)];exact ih (i+1) (by omega) (by omega)
     ·rw[gu (by omega)]
      exact Or.inl rfl
   have e:=key (Int.toNat (List.length l:Int)+1) 0 (by omega) (by omega)
   rcases e with e|e
   ·have e':mN (Int.toNat (List.length l:Int)+1) (a,l,l,(List.length l:Int),0,s)=some (.brk l):=e
    rw[e',aH]
    refine bindT ?_ fun v=>⟨v,rfl⟩
    by_cases hp:(0:Int)<(l.length:Int)
    ·rw[cH hp,aA hp];exact⟨_,rfl⟩
    ·rw[aC (show¬decide ((0:Int)<(l.length:Int))=true by simpa using hp)];exact⟨_,rfl⟩
   ·have e':mN (Int.toNat (List.length l:Int)+1) (a,l,l,(List.length l:Int),0,s)=some (.ret false):=e
    rw[e',eT];exact⟨_,rfl⟩
theorem fits_ans(a b:jg)(n:Int):∃r,f145 a b n=some r:=by
 unfold f145
 by_cases h1:a.1=b.1
 ·rw[aC (by simp[h1])]
  by_cases e1:a.1=1
  ·rw[cH e1,aJ,aA rfl]
   repeat' (first|exact⟨_,rfl⟩|split)
  ·rw[aC (show¬decide (a.1=(1:Int))=true by simpa using e1)]
   by_cases e2:a.1=2
   ·rw[cu e2,aJ,aA rfl]
    repeat' (first|exact⟨_,rfl⟩|split)
   ·rw[dz e2,aJ,aC (by decide),aH]
    dsimp only
    refine bindT ?_ fun v=>⟨v,rfl⟩
    repeat' (first|exact⟨_,rfl⟩|split)
 ·rw[aA (by simp[h1])];exact⟨_,rfl⟩
theorem twol8(l m:ZD)(k:Zq)(hk:k.length≤aE):∀(n i:Nat)(N O:List Bool),k.length -i<n→i≤k.length→N.length=l.length→O.length=m.length→
 ∃r,aG (U:=Unit) (tX n (l,m,k,(k.length:Int),(i:Int),N,O)) (fun _=>some true)=some r:=by
 intro n
 have hB:=hB
 induction n with
 |zero=>intro i N O h;omega
 |
  succ n ih=>
  intro i N O hn hi hN hO
  unfold tX at ih ⊢
  rw[aM]
  generalize aK _ n=rec at ih ⊢
  dsimp only
  by_cases h:i<k.length
  ·rw[cH (by
    omega),ei i,aA (show(i:Int)<(k.length:Int) by omega)]
   generalize nth aS k (i:Int)=mv
   by_cases h1:mv.2.2.2.1<(1:Int)
   ·rw[cH h1];exact⟨_,rfl⟩
   ·rw[aC (show¬decide (mv.2.2.2.1<(1:Int))=true by simpa using h1)]
    by_cases h2:(l.length:Int)≤mv.2.2.2.1
    ·rw[cH h2];exact⟨_,rfl⟩
    ·rw[aC (show¬decide ((l.length:Int)≤mv.2.2.2.1)=true by simpa using h2)]
     by_cases h3:mv.2.2.1<(1:Int)
     ·rw[cH h3];exact⟨_,rfl⟩
     ·rw[aC (show¬decide (mv.2.2.1<(1:Int))=true by simpa using h3)]
      by_cases h4:(m.length:Int)≤mv.2.2.1
      ·rw[cH h4];exact⟨_,rfl⟩
      ·rw[aC (show¬decide ((m.length:Int)≤mv.2.2.1)=true by simpa using h4)]
       have p0:(0:Int)≤mv.2.2.2.1:=Int.le_trans (by decide) (Int.not_lt.1 h1)
       have p1:mv.2.2.2.1<(l.length:Int):=Int.not_le.1 h2
       have q0:(0:Int)≤mv.2.2.1:=Int.le_trans (by decide) (Int.not_lt.1 h3)
       have q1:mv.2.2.1<(m.length:Int):=Int.not_le.1 h4
       have p2:mv.2.2.2.1<(N.length:Int):=by rw[hN];exact p1
       have q2:mv.2.2.1<(O.length:Int):=by rw[hO];exact q1
       rw[aA p0,aA p2]
       have key:∀v:Bool,∃r,aG (U:=Unit) (aG (U:=ZD×ZD×Zq×Int×Int×gO×List Bool×List Bool) (if v=true then(bZ (bZ (some false))) else(some (.brk (l,m,k,(k.length:Int),(i:Int),mv,N,O)))) fun u=>match u with|⟨d,e,f,g,h,a,b,c⟩=>if 0≤a.2.2.2.1 then(if a.2.2.2.1<(List.length b:Int) then(if 0≤a.2.2.1 then(if a.2.2.1<(List.length c:Int) then(if 0≤a.2.2.2.1 then(if a.2.2.2.1<(List.length d:Int) then(if 0≤a.2.2.1 then(if a.2.2.1<(List.length e:Int) then(Option.bind (f145 (((nth dY d a.2.2.2.1).2).1) (((nth dY e a.2.2.1).2).1) a.2.2.2.2.1) fun y12=>if(!y12)=true then(bZ (some false)) else(rec (d,e,f,g,aZ (h+(1:Int)),List.set b (Int.toNat a.2.2.2.1) true,List.set c (Int.toNat a.2.2.1) true))) else none) else none) else none) else none) else none) else none) else none) else none) (fun _=>some true)=some r:=fun v=>by
        cases v with
        |true=>exact⟨_,rfl⟩
        |
         false=>
         rw[aC (by decide),aH]
         dsimp only
         rw[aA p0,aA p2,aA q0,aA q2,aA p0,aA p1,aA q0,aA q1]
         obtain⟨z,hz⟩:=fits_ans ((nth dY l mv.2.2.2.1).2).1 ((nth dY m mv.2.2.1).2).1 mv.2.2.2.2.1
         rw[hz,aJ]
         cases z with
         |false=>exact⟨_,rfl⟩
         |
          true=>
          rw[aC (by decide),bu (by omega)]
          exact ih (i+1) _ _ (by omega) (by omega) (by rw[bQ];exact hN) (by rw[bQ];exact hO)
       split
       ·exact key true
       ·exact key _
  ·rw[gu (by omega)]
   exact⟨_,rfl⟩
theorem twoWay_ans(s:cz)(hN:NB s)(c:pZ)(hc:c.2.2.2.2.1.length≤aE):∃r,f94 s c=some r:=by
 have hB:=hB
 unfold f94
 by_cases h0:c.2.2.1=c.2.2.2.1
 ·rw[cH h0];exact⟨_,rfl⟩
 ·rw[aC (show¬decide (c.2.2.1=c.2.2.2.1)=true by simpa using h0)]
  obtain⟨r1,e1,m1⟩:=person_eq s hN c.2.2.1
  rw[e1,aJ]
  cases r1 with
  |false=>exact⟨_,rfl⟩
  |
   true=>
   rw[aC (by decide)]
   obtain⟨r2,e2,m2⟩:=person_eq s hN c.2.2.2.1
   rw[e2,aJ,aJ]
   cases r2 with
   |false=>exact⟨_,rfl⟩
   |
    true=>
    rw[aC (by decide),aH]
    dsimp only
    have a1:=m1 rfl
    have a2:=m2 rfl
    rw[aA a1.1,aA a1.2,aA a2.1,aA a2.2]
    have l1:=(hN _ (dv (t:=bG) (l:=s.2.2.1) a1.1 a1.2)).1
    have l2:=(hN _ (dv (t:=bG) (l:=s.2.2.1) a2.1 a2.2)).1
    generalize (nth bG s.2.2.1 c.2.2.1).2.2.2.2.1=l at l1 ⊢
    generalize (nth bG s.2.2.1 c.2.2.2.1).2.2.2.2.1=m at l2 ⊢
    have h8:∃r,aG (U:=Unit) (tX (Int.toNat (List.length c.2.2.2.2.1:Int)+1) (l,m,c.2.2.2.2.1,(List.length c.2.2.2.2.1:Int),0,List.replicate (Int.toNat (List.length l:Int)) false,List.replicate (Int.toNat (List.length m:Int)) false)) (fun _=>some true)=some r:=
     twol8 l m c.2.2.2.2.1 hc _ 0 _ _ (by omega) (by omega) (by rw[jJ,dO]) (by rw[jJ,dO])
    have key:∀v:Bool,∃r,aG (U:=ZD×ZD×pZ) (if v=true then(bZ (some false)) else(some (.brk (l,m,c)))) (fun u=>match u with|⟨c,d,e⟩=>if 0≤(List.length c:Int) then(if(List.length c:Int)≤(List.length c:Int) then(if(List.length c:Int)*(1:Int)≤(aE:Int) then(if 0≤(List.length d:Int) then(if(List.length d:Int)≤(List.length d:Int) then(if(List.length d:Int)*(1:Int)≤(aE:Int) then(aG (U:=Unit) (tX (Int.toNat (List.length e.2.2.2.2.1:Int)+1) (c,d,e.2.2.2.2.1,(List.length e.2.2.2.2.1:Int),0,List.replicate (Int.toNat (List.length c:Int)) false,List.replicate (Int.toNat (List.length d:Int)) false)) fun _=>some true) else none) else none) else none) else none) else none) else none)=some r:=fun v=>by
     cases v with
     |true=>exact⟨_,rfl⟩
     |
      false=>
      rw[aC (by decide),aH]
      dsimp only
      rw[ei _,aA (kg _),aA (by omega),ei _,aA (kg _),aA (by omega)]
      exact h8
    split
    ·exact key true
    ·exact key _
theorem vcheck_ans(s:cz)(hN:NB s)(hs:SS s):∃r,f60 s=some r:=by
 have hB:=hB
 have hl:=hs.converts
 have key:∀(n i:Nat),s.2.2.2.2.1.length -i<n→i≤s.2.2.2.2.1.length→∃r,aG (U:=Unit) (BW n (s.2.2.2.2.1,(s.2.2.2.2.1.length:Int),(i:Int),s)) (fun _=>some (0:Int))=some r:=by
  intro n
  induction n with
  |zero=>intro i h;omega
  |
   succ n ih=>
   intro i hn hi
   unfold BW at ih ⊢
   rw[aM]
   generalize aK _ n=rec at ih ⊢
   dsimp only
   by_cases h:i<s.2.2.2.2.1.length
   ·obtain⟨r,hr⟩:=twoWay_ans s hN s.2.2.2.2.1[i] (hs.mv _ (jn h))
    rw[cH (by omega),ei i,aA (show(i:Int)<(s.2.2.2.2.1.length:Int) by omega),cT (t:=fa) h,bu (by omega),hr,aJ]
    cases r with
    |false=>exact⟨_,rfl⟩
    |true=>rw[aC (by decide)];exact ih (i+1) (by omega) (by omega)
   ·rw[gu (by omega)]
    exact⟨_,rfl⟩
 exact key _ 0 (by omega) (by omega)
theorem colStr_eq(l:ZF)(hl:l.length≤aE):∃M b,VR l.length M∧wj l=some (some M,b):=j9 .str f182 (fun x=>x) (fun _=>rfl) l hl
theorem colUnit_eq(l:Zq)(hl:l.length≤aE):∃M b,VR l.length M∧wm l=some (some M,b):=j9 aS f184 (fun x=>x.1) (fun _=>rfl) l hl
theorem colSchema_eq(l:ZA)(hl:l.length≤aE):∃M b,VR l.length M∧wo l=some (some M,b):=j9 bG f186 (fun x=>x.1) (fun _=>rfl) l hl
theorem colPurpose_eq(l:Zz)(hl:l.length≤aE):∃M b,VR l.length M∧wq l=some (some M,b):=j9 dk f188 (fun x=>x.1) (fun _=>rfl) l hl
theorem colField_eq(l:ZD)(hl:l.length≤aE):∃M b,VR l.length M∧wu l=some (some M,b):=j9 dY f190 (fun x=>x.1) (fun _=>rfl) l hl
theorem colFrom_eq(l:Zv)(hl:l.length≤aE):∃M b,VR l.length M∧wv l=some (some M,b):=j9 aL f192 (fun x=>x.1) (fun _=>rfl) l hl
theorem find_eq{n:Nat}(m:Za)(h:VR n (bM m))(k:Zg):f193 m k=some (.inl ((),()))∨∃x,f193 m k=some (.inr x)∧0≤x∧x<(n:Int):=by
 unfold f193
 cases hk:ck .str k (bM m) with
 |false=>exact Or.inl (aA (by decide))
 |true=>exact Or.inr ⟨_,aC (by decide),h.get hk⟩
abbrev OM:=Za
theorem gatl11(s:cz)(i u m:OM)(l:ZA)(hl:l.length*96≤aE)(hf:∀x∈l,x.2.2.2.2.1.length≤aE):∀(n c:Nat)(g:Bool)(f:List OM),l.length -c<n→c≤l.length→f.length=c→(∀j(hj:j<f.length)(hj':j<l.length),VR l[j].2.2.2.2.1.length (bM f[j]))→
 ∃g' f',jH n (g,l,(l.length:Int),(c:Int),s,i,u,m,f)=some (.brk (g',s,i,u,m,f'))∧f'.length=l.length∧∀j(hj:j<f'.length)(hj':j<l.length),VR l[j].2.2.2.2.1.length (bM f'[j]):=by
 intro n
 have hB:=hB
 induction n with
 |zero=>intro c g f h;omega
 |
  succ n ih=>
  intro c g f hn hc hfl hv
  unfold jH at ih ⊢
  rw[aM]
  generalize aK _ n=rec at ih ⊢
  dsimp only
  by_cases h:c<l.length
  ·obtain⟨M,b,hM,e⟩:=colField_eq l[c].2.2.2.2.1 (hf _ (jn h))
   rw[cH (by omega),ei c,aA (show(c:Int)<(l.length:Int) by omega),cT (t:=bG) h,e,aJ]
   dsimp only
   rw[aA (show(f.length+List.length [_])*8≤aE by rw[cM];omega),bu (by omega)]
   have key:∀v:Bool,∃g' f',rec (v,l,(l.length:Int),((c+1:Nat):Int),s,i,u,m,f++[some M])=some (.brk (g',s,i,u,m,f'))∧f'.length=l.length∧∀j(hj:j<f'.length)(hj':j<l.length),VR l[j].2.2.2.2.1.length (bM f'[j]):=fun v=>
    ih (
     c+1) v _ (by omega) (by omega) (by rw[dZ,cM,hfl]) fun j hj hj'=>by
     by_cases ej:j<f.length
     ·rw[List.getElem_append_left ej];exact hv j ej hj'
     ·have:j=c:=by rw[dZ,cM] at hj;omega
      subst this
      rw[List.getElem_append_right (by omega)]
      simp only[hfl,Nat.sub_self,List.getElem_singleton]
      exact hM
   split
   ·rw[aJ];exact key true
   ·rw[aJ];exact key b
  ·rw[gu (by omega)]
   exact⟨g,f,rfl,by omega,hv⟩
theorem gatl18(i u m:OM)(fs:List OM)(l:Zn)(hl:l.length≤aE)(hf:∀x∈l,x.2.2.1.length≤aE):∀(n c:Nat)(g:Bool),l.length -c<n→c≤l.length→
 ∃g',jI n (g,l,(l.length:Int),(c:Int),i,u,m,fs)=some (.brk (g',i,u,m,fs)):=by
 intro n
 have hB:=hB
 induction n with
 |zero=>intro c g h;omega
 |
  succ n ih=>
  intro c g hn hc
  unfold jI at ih ⊢
  rw[aM]
  generalize aK _ n=rec at ih ⊢
  dsimp only
  by_cases h:c<l.length
  ·obtain⟨M,b,_,e⟩:=colFrom_eq l[c].2.2.1 (hf _ (jn h))
   rw[cH (by omega),ei c,aA (show(c:Int)<(l.length:Int) by omega),cT (t:=bz) h,e,aJ]
   dsimp only
   rw[bu (by omega)]
   split
   ·rw[aJ];exact ih (c+1) true (by omega) (by omega)
   ·rw[aJ];exact ih (c+1) b (by omega) (by omega)
  ·rw[gu (by omega)]
   exact⟨g,rfl⟩
theorem gather_eq(s:cz)(hs:SS s)(h96:s.2.2.1.length*96≤aE):∃tw i u m fs,rG s=some (tw,i,u,m,fs)∧VR s.1.length (bM i)∧VR s.2.1.length (bM u)∧VR s.2.2.1.length (bM m)∧fs.length=s.2.2.1.length∧∀j(hj:j<fs.length)(hj':j<s.2.2.1.length),VR s.2.2.1[j].2.2.2.2.1.length (bM fs[j]):=by
 have hB:=hB
 obtain⟨M1,b1,v1,e1⟩:=colStr_eq s.1 hs.issuers
 obtain⟨M2,b2,v2,e2⟩:=colUnit_eq s.2.1 hs.units
 obtain⟨M3,b3,v3,e3⟩:=colSchema_eq s.2.2.1 hs.schemas
 obtain⟨M4,b4,_,e4⟩:=colPurpose_eq s.2.2.2.2.2.1 hs.purposes
 unfold rG
 rw[e1,aJ]
 dsimp only
 rw[e2,aJ]
 dsimp only
 have orT:∀(a b:Bool)(K:Bool→Option (Bool×OM×OM×OM×List OM))(P:Option (Bool×OM×OM×OM×List OM)→Prop),(∀v,P (K v))→P (Option.bind (α:=Bool) (if a=true then(some true) else(some b)) K):=fun a b K P h=>by
  cases a with
  |true=>exact h true
  |false=>exact h b
 refine orT _ _ _ (fun y=>∃tw i u m fs,y=some (tw,i,u,m,fs)∧VR s.1.length (bM i)∧VR s.2.1.length (bM u)∧VR s.2.2.1.length (bM m)∧fs.length=s.2.2.1.length∧∀j(hj:j<fs.length)(hj':j<s.2.2.1.length),VR s.2.2.1[j].2.2.2.2.1.length (bM fs[j])) fun w1=>?_
 rw[e3,aJ]
 dsimp only
 refine orT _ _ _ (fun y=>∃tw i u m fs,y=some (tw,i,u,m,fs)∧VR s.1.length (bM i)∧VR s.2.1.length (bM u)∧VR s.2.2.1.length (bM m)∧fs.length=s.2.2.1.length∧∀j(hj:j<fs.length)(hj':j<s.2.2.1.length),VR s.2.2.1[j].2.2.2.2.1.length (bM fs[j])) fun w2=>?_
 rw[e4,aJ]
 dsimp only
 refine orT _ _ _ (fun y=>∃tw i u m fs,y=some (tw,i,u,m,fs)∧VR s.1.length (bM i)∧VR s.2.1.length (bM u)∧VR s.2.2.1.length (bM m)∧fs.length=s.2.2.1.length∧∀j(hj:j<fs.length)(hj':j<s.2.2.1.length),VR s.2.2.1[j].2.2.2.2.1.length (bM fs[j])) fun w3=>?_
 obtain⟨g',f',e11,hl,hv⟩:=gatl11 s (some M1) (some M2) (some M3) s.2.2.1 h96 (fun x hx=>(hs.fields x hx).1) (Int.toNat (List.length s.2.2.1:Int)+1) 0 w3 [] (by omega) (by omega) rfl (fun j hj=>by simp at hj)
 have e11':jH (Int.toNat (List.length s.2.2.1:Int)+1) (w3,s.2.2.1,(List.length s.2.2.1:Int),0,s,some M1,some M2,some M3,([]:List OM))=some (.brk (g',s,some M1,some M2,some M3,f')):=e11
 rw[e11',aH]
 dsimp only
 obtain⟨g2,e18⟩:=gatl18 (some M1) (some M2) (some M3) f' s.2.2.2.1 hs.rules (fun x hx=>(hs.rl x hx).1) (Int.toNat (List.length s.2.2.2.1:Int)+1) 0 g' (by omega) (by omega)
 have e18':jI (Int.toNat (List.length s.2.2.2.1:Int)+1) (g',s.2.2.2.1,(List.length s.2.2.2.1:Int),0,some M1,some M2,some M3,f')=some (.brk (g2,some M1,some M2,some M3,f')):=e18
 rw[e18',aH]
 exact⟨g2,some M1,some M2,some M3,f',rfl,v1,v2,v3,hl,hv⟩
theorem findW{n:Nat}{m:OM}(h:VR n (bM m)){k:Zg}{R:Type}{kp:Unit×Unit→Option R}{kn:Int→Option R}{P:R→Prop}(h1:W (kp ((),())) P)(h2:∀x,0≤x→x<(n:Int)→W (kn x) P):W (eK (f193 m k) kp kn) P:=by
 rcases find_eq m h k with e|⟨x,e,h0,hx⟩
 ·rw[e];exact h1
 ·rw[e];exact h2 x h0 hx
theorem findU(m:OM){k:Zg}{R:Type}{kp:Unit×Unit→Option R}{kn:Int→Option R}{P:R→Prop}(h1:W (kp ((),())) P)(h2:∀x,W (kn x) P):W (eK (f193 m k) kp kn) P:=by
 unfold f193
 cases ck .str k (bM m) with
 |false=>exact h1
 |true=>exact h2 _
theorem nUnits_eq(i u m:OM)(l:Zq)(fs:List OM)(hl:l.length≤aE)(hv:VR l.length (bM u)):W (rH i u m l fs) (ST (fun _=>True) fun r=>∃l',r=(i,u,m,l',fs)):=by
 have hB:=hB
 unfold rH
 refine bN.2 (W.ct (cD (L:=sC) rfl (CT (fun d=>∃l',d=(i,u,m,l',fs)) fun r=>r= .inl ((),())) l.length (fun c(s:Zq)=>((l.length:Int),(c:Int),i,u,m,s,fs)) (fun _ s=>s.length=l.length) ?step ?stop _ 0 l (by omega) (by omega) rfl) (fun d ⟨l',h⟩=>?_) fun r h=>?_)
 case step=>
  intro rec c s hc hI k
  dsimp only
  rw[cH (by omega),ei c,aA (show(c:Int)<(s.length:Int) by omega),bu (by omega)]
  split
  ·exact k _ (by rw[bQ,bQ];exact hI)
  ·refine findW hv ⟨_,rfl,rfl⟩ fun x h0 h1=>?_
   by_cases h:(c:Int)≤x
   ·rw[cH h];exact⟨_,rfl,rfl⟩
   ·rw[aC (show¬decide ((c:Int)≤x)=true by simpa using h),aH]
    dsimp only
    rw[aA h0,aA (show x<(s.length:Int) by omega)]
    generalize hL:List.set _ _ _=L
    have hL':L.length=l.length:=by rw[←hL,bQ,bQ];exact hI
    clear hL
    rw[aH]
    dsimp only
    have hx:x<(L.length:Int):=by omega
    rw[aA h0,aA hx]
    refine W.bt ?_ fun v=>?_
    ·repeat' (first|exact⟨_,rfl⟩|split)
    ·split
     ·rw[bu (by omega)]
      exact k _ (by rw[bQ];exact hL')
     ·rw[bu (by omega)]
      exact k _ hL'
 case stop=>
  intro rec s hI
  dsimp only
  rw[gu (by omega)]
  exact⟨_,rfl,s,rfl⟩
 ·subst h;exact⟨_,rfl,l',rfl⟩
 ·subst h;exact trivial
def BSch(x:kX):Prop:=x.2.2.2.2.1.length*120≤aE∧x.2.2.2.2.2.1.length*72≤aE∧∀d∈x.2.2.2.2.2.1,d.1.length*16≤aE
theorem nSchema_eq(t i u m:OM)(l:ZA)(k:Nat)(a:kX)(fs:List OM)(hb:BSch a):W (rI t i u m l k a fs) (ST (fun _=>True) fun r=>∃x1 x2 x3 x4 x5 x6 x7,r=(i,u,m,l,k,x1,x2,x3,x4,x5,fs,x6,x7)):=by
 have hB:=hB
 unfold rI
 refine findU i ⟨_,rfl,trivial⟩ fun y1=>?_
 have e1:wJ a.2.2.2.2.1=some a.2.2.2.2.1:=gG _ _ hb.1
 rw[e1,aJ]
 have l1:a.2.2.2.2.1.length≤aE:=by have:=hb.1;omega
 refine bN.2 (W.ct (cD (L:=sD) rfl (CT (fun d=>∃s',d=(t,i,u,m,l,k,a.1,a.2.1,y1,a.2.2.2.1,a.2.2.2.2.2,fs,s')) fun r=>r= .inl ((),())) a.2.2.2.2.1.length (fun c(s:ZD)=>(t,(a.2.2.2.2.1.length:Int),(c:Int),i,u,m,l,k,a.1,a.2.1,y1,a.2.2.2.1,a.2.2.2.2.2,fs,s)) (fun _ s=>s.length=a.2.2.2.2.1.length) ?step ?stop _ 0 a.2.2.2.2.1 (by omega) (by omega) rfl) (fun d ⟨s',h⟩=>?_) fun r h=>?_)
 case step=>
  intro rec c s hc hI kk
  dsimp only
  have hw:=ka c (by omega)
  rw[cH (by omega),ei c,aA (show(c:Int)<(s.length:Int) by omega)]
  generalize hL:List.set _ _ _=L
  have hL':L.length=a.2.2.2.2.1.length:=by rw[←hL,bQ];exact hI
  clear hL
  rw[aH]
  dsimp only
  refine W.bt ?_ fun v=>?_
  ·split<;>exact⟨_,rfl⟩
  ·split
   ·exact findU u ⟨_,rfl,rfl⟩ fun x=>(by rw[hw];exact kk _ (by rw[bQ];exact hL'))
   ·rw[hw];exact kk _ hL'
 case stop=>
  intro rec s hI
  dsimp only
  rw[gu (by omega)]
  exact⟨_,rfl,s,rfl⟩
 ·subst h
  dsimp only
  have e2:wK a.2.2.2.2.2.1=some a.2.2.2.2.2.1:=gG _ _ hb.2.1
  rw[e2,aJ]
  have l2:a.2.2.2.2.2.1.length≤aE:=by have:=hb.2.1;omega
  refine bN.2 (W.ct (cD (L:=qA) rfl (CT (fun d=>∃z,d=(i,u,m,l,k,a.1,a.2.1,y1,a.2.2.2.1,a.2.2.2.2.2.2,fs,s',z)) fun r=>r= .inl ((),())) a.2.2.2.2.2.1.length (fun c(s:List ja)=>(t,(a.2.2.2.2.2.1.length:Int),(c:Int),i,u,m,l,k,a.1,a.2.1,y1,a.2.2.2.1,a.2.2.2.2.2.2,fs,s',s)) (fun _ s=>s.length=a.2.2.2.2.2.1.length∧∀d∈s,d.1.length*16≤aE) ?step ?stop _ 0 a.2.2.2.2.2.1 (by omega) (by omega) ⟨rfl,hb.2.2⟩) (fun d ⟨z,h⟩=>?_) fun r h=>?_)
  case step=>
   intro rec c s hc hI kk
   dsimp only
   have hcs:(c:Int)<(s.length:Int):=by have:=hI.1;omega
   have hn:(nth ew s (c:Int)).1.length*16≤aE:=hI.2 _ (dv (t:=ew) (dD c) hcs)
   have hw:=ka c (by omega)
   rw[cH (by omega),ei c,aA hcs]
   generalize nth ew s (c:Int)=w at hn ⊢
   refine bN.2 (bN.2 (W.ct (cD (L:=qz) rfl (CT (fun d=>∃e,d=(t,(a.2.2.2.2.2.1.length:Int),(c:Int),i,u,m,l,k,a.1,a.2.1,y1,a.2.2.2.1,a.2.2.2.2.2.2,fs,s',s,Int.toNat (c:Int),w.1,w.2.1,w.2.2.2,e)) fun r=>r= .ret (.ret (.inl ((),())))) w.1.length (fun j(e:Ze)=>(t,(a.2.2.2.2.2.1.length:Int),(c:Int),w.1,(w.1.length:Int),(j:Int),i,u,m,l,k,a.1,a.2.1,y1,a.2.2.2.1,a.2.2.2.2.2.2,fs,s',s,Int.toNat (c:Int),w.1,w.2.1,w.2.2.2,e)) (fun j e=>e.length=j) ?step2 ?stop2 _ 0 [] (by omega) (by omega) rfl) (fun d ⟨e,h⟩=>?_) fun r h=>?_))
   case step2=>
    intro rec2 j e hj hI2 kk2
    dsimp only
    have hw2:=ka j (by omega)
    rw[cH (by omega),ei j,aA (show(j:Int)<(w.1.length:Int) by omega)]
    refine findU t ⟨_,rfl,rfl⟩ fun x=>?_
    rw[aA (show(e.length+List.length [_])*8≤aE by rw[cM];omega)]
    rw[hw2]
    exact kk2 _ (by rw[dZ,cM,hI2])
   case stop2=>
    intro rec2 e hI2
    dsimp only
    rw[gu (by omega)]
    exact⟨_,rfl,e,rfl⟩
   ·subst h
    dsimp only
    refine findU t ⟨_,rfl,rfl⟩ fun x=>⟨_,rfl,?_⟩
    rw[ir]
    dsimp only
    rw[hw]
    refine kk _ ⟨by rw[bQ];exact hI.1,fun d hd=>?_⟩
    rcases List.mem_or_eq_of_mem_set hd with h|rfl
    ·exact hI.2 d h
    ·exact hn
   ·subst h;exact rfl
  case stop=>
   intro rec s hI
   dsimp only
   rw[gu (by omega)]
   exact⟨_,rfl,s,rfl⟩
  ·subst h
   exact⟨_,rfl,_,_,_,_,_,_,_,rfl⟩
  ·subst h;exact trivial
 ·subst h;exact trivial
def Sc(l:Zv):Ze:=l.map fun x=>x.2.2.1
theorem Sc_len(l:Zv):(Sc l).length=l.length:=iO ..
theorem Sc_set(l:Zv)(i:Nat)(v:xw)(h:v.2.2.1=(l.getD i (Ty.aD aL)).2.2.1):Sc (l.set i v)=Sc l:=by
 unfold Sc
 rw[List.map_set]
 refine List.ext_getElem (by rw[bQ]) fun j h1 h2=>?_
 rw[List.getElem_set]
 split
 ·rename_i e
  subst e
  rw[iO] at h2
  rw[h,List.getElem_map,oh,oe h2,Option.getD_some]
 ·rfl
def VS(n K:Nat)(s:Ze):Prop:=n≤s.length∧∀j(h:j<s.length),j<n→0≤s[j]∧s[j]<(K:Int)
theorem VS.at'{n K:Nat}{l:Zv}(h:VS n K (Sc l)){x:Int}(h0:0≤x)(h1:x<(n:Int)):x<(l.length:Int)∧0≤(nth aL l x).2.2.1∧(nth aL l x).2.2.1<(K:Int):=by
 have hn:=h.1
 rw[Sc_len] at hn
 have e:x=(x.toNat:Int):=by omega
 have hx:x.toNat<l.length:=by omega
 have hs:=h.2 x.toNat (by rw[Sc_len];exact hx) (by omega)
 rw[e,cT (t:=aL) hx]
 unfold Sc at hs
 rw[List.getElem_map] at hs
 exact⟨by omega,hs⟩
theorem getD_set_self{α:Type}{l:List α}{i:Nat}{v d:α}(h:i<l.length):(l.set i v).getD i d=v:=by
 rw[oh,oe (by rw[bQ];exact h),Option.getD_some,List.getElem_set_self]
theorem nTerm1(a0:Nat)(a1:Zv)(a2:Zo)(i u m:OM)(a6:Zn)(a7:Nat)(a8:Zg)(a9:Int)(a10:Zx×Zy×Unit)(fs:List OM)(n:Nat)(h0:a0<a1.length)(hv:VR n a2)(hs:VS n fs.length (Sc a1)):
 W (rJ a0 a1 a2 i u m a6 a7 a8 a9 a10 fs) (ST (fun _=>True) fun r=>∃a1',r=(a1',a2,i,u,m,a6,a7,a8,a9,a10,fs)∧Sc a1'=Sc a1):=by
 unfold rJ
 generalize hL:List.set (List.set a1 _ _) _ _=L
 have hL':Sc L=Sc a1:=by
  rw[←hL,Sc_set _ _ _ (by rfl),Sc_set _ _ _ (by rfl)]
 have hLl:a0<L.length:=by rw[←hL,bQ,bQ];exact h0
 clear hL
 rw[aH]
 dsimp only
 split
 ·refine bN.2 (findW (m:=some a2) hv ⟨_,rfl,trivial⟩ fun x hx0 hx1=>⟨_,rfl,?_⟩)
  rw[ir]
  generalize hM:List.set _ _ _=M
  have hg:(List.getD M a0 (Ty.aD aL)).2.2.2.1.2.2.1=x:=by rw[←hM,getD_set_self hLl]
  have hM':Sc M=Sc a1:=by rw[←hM,Sc_set _ _ _ (by rfl)];exact hL'
  clear hM
  dsimp only
  rw[←hM'] at hs
  obtain⟨q1,q2,q3⟩:=hs.at' hx0 hx1
  rw[hg,aA hx0,aA q1,aA q2,aA q3]
  refine findU _ ⟨_,rfl,trivial⟩ fun y=>⟨_,rfl,_,rfl,?_⟩
  rw[Sc_set _ _ _ (by rfl)];exact hM'
 ·exact⟨_,rfl,_,rfl,hL'⟩
theorem nTerm2(a0:Nat)(a1:Zx)(a2:Zo)(i u m:OM)(a6:Zn)(a7:Nat)(a8:Zg)(a9:Int)(a10:Zy×Unit)(fs:List OM)(a12:Zv)(n:Nat)(h0:a0<a1.length)(hv:VR n a2)(hs:VS n fs.length (Sc a12)):
 W (rK a0 a1 a2 i u m a6 a7 a8 a9 a10 fs a12) (ST (fun _=>True) fun r=>∃a1',r=(a1',a2,i,u,m,a6,a7,a8,a9,a10,fs,a12)∧a1'.length=a1.length):=by
 unfold rK
 generalize hL:List.set (List.set a1 _ _) _ _=L
 have hL':L.length=a1.length:=by rw[←hL,bQ,bQ]
 clear hL
 rw[aH]
 dsimp only
 split
 ·refine bN.2 (findW (m:=some a2) hv ⟨_,rfl,trivial⟩ fun x hx0 hx1=>⟨_,rfl,?_⟩)
  rw[ir]
  generalize hM:List.set _ _ _=M
  have hg:(List.getD M a0 (Ty.aD aP)).2.1.2.2.1=x:=by rw[←hM,getD_set_self (by omega)]
  have hM':M.length=a1.length:=by rw[←hM,bQ];exact hL'
  clear hM
  dsimp only
  obtain⟨q1,q2,q3⟩:=hs.at' hx0 hx1
  rw[hg,aA hx0,aA q1,aA q2,aA q3]
  refine findU _ ⟨_,rfl,trivial⟩ fun y=>⟨_,rfl,_,rfl,?_⟩
  rw[bQ];exact hM'
 ·exact⟨_,rfl,_,rfl,hL'⟩
theorem nTerm3(a0:Nat)(a1:Zx)(a2:Zo)(i u m:OM)(a6:Zn)(a7:Nat)(a8:Zg)(a9:Int)(a10:Zy×Unit)(fs:List OM)(a12:Zv)(n:Nat)(h0:a0<a1.length)(hv:VR n a2)(hs:VS n fs.length (Sc a12)):
 W (rR a0 a1 a2 i u m a6 a7 a8 a9 a10 fs a12) (ST (fun _=>True) fun r=>∃a1',r=(a1',a2,i,u,m,a6,a7,a8,a9,a10,fs,a12)∧a1'.length=a1.length):=by
 unfold rR
 generalize hL:List.set (List.set a1 _ _) _ _=L
 have hL':L.length=a1.length:=by rw[←hL,bQ,bQ]
 clear hL
 rw[aH]
 dsimp only
 split
 ·refine bN.2 (findW (m:=some a2) hv ⟨_,rfl,trivial⟩ fun x hx0 hx1=>⟨_,rfl,?_⟩)
  rw[ir]
  generalize hM:List.set _ _ _=M
  have hg:(List.getD M a0 (Ty.aD aP)).2.2.1.2.2.1=x:=by rw[←hM,getD_set_self (by omega)]
  have hM':M.length=a1.length:=by rw[←hM,bQ];exact hL'
  clear hM
  dsimp only
  obtain⟨q1,q2,q3⟩:=hs.at' hx0 hx1
  rw[hg,aA hx0,aA q1,aA q2,aA q3]
  refine findU _ ⟨_,rfl,trivial⟩ fun y=>⟨_,rfl,_,rfl,?_⟩
  rw[bQ];exact hM'
 ·exact⟨_,rfl,_,rfl,hL'⟩
theorem nTerm4(a0:Nat)(a1:Zy)(a2:Zo)(i u m:OM)(a6:Zn)(a7:Nat)(a8:Zg)(a9:Int)(a10:Unit)(fs:List OM)(a12:Zv)(a13:Zx)(n:Nat)(h0:a0<a1.length)(hv:VR n a2)(hs:VS n fs.length (Sc a12)):
 W (rS a0 a1 a2 i u m a6 a7 a8 a9 a10 fs a12 a13) (ST (fun _=>True) fun r=>∃a1',r=(a1',a2,i,u,m,a6,a7,a8,a9,a10,fs,a12,a13)∧a1'.length=a1.length):=by
 unfold rS
 generalize hL:List.set (List.set a1 _ _) _ _=L
 have hL':L.length=a1.length:=by rw[←hL,bQ,bQ]
 clear hL
 rw[aH]
 dsimp only
 split
 ·refine bN.2 (findW (m:=some a2) hv ⟨_,rfl,trivial⟩ fun x hx0 hx1=>⟨_,rfl,?_⟩)
  rw[ir]
  generalize hM:List.set _ _ _=M
  have hg:(List.getD M a0 (Ty.aD aX)).2.2.1.2.2.1=x:=by rw[←hM,getD_set_self (by omega)]
  have hM':M.length=a1.length:=by rw[←hM,bQ];exact hL'
  clear hM
  dsimp only
  obtain⟨q1,q2,q3⟩:=hs.at' hx0 hx1
  rw[hg,aA hx0,aA q1,aA q2,aA q3]
  refine findU _ ⟨_,rfl,trivial⟩ fun y=>⟨_,rfl,_,rfl,?_⟩
  rw[bQ];exact hM'
 ·exact⟨_,rfl,_,rfl,hL'⟩
def BRule(x:dq):Prop:=x.2.2.1.length*96≤aE∧x.2.2.2.1.length*120≤aE∧x.2.2.2.2.1.length*80≤aE
theorem VS.cong{n K:Nat}{s:Ze}(h:VS n K s)(y:Int):VS n K (s.set n y):=by
 refine⟨by rw[bQ];exact h.1,fun j hj hn=>?_⟩
 rw[bQ] at hj
 rw[List.getElem_set_ne (by omega)]
 exact h.2 j hj hn
theorem VS.push{n K:Nat}{s:Ze}(h:VS n K s)(hn:n<s.length){y:Int}(h0:0≤y)(h1:y<(K:Int)):VS (n+1) K (s.set n y):=by
 refine⟨by rw[bQ];exact hn,fun j hj hjn=>?_⟩
 rw[bQ] at hj
 by_cases e:j=n
 ·subst e
  rw[List.getElem_set_self]
  exact⟨h0,h1⟩
 ·rw[List.getElem_set_ne (by omega)]
  exact h.2 j hj (by omega)
theorem VR.push{n:Nat}{M:Zo}(h:VR n M)(k:Zg):VR (n+1) (bB .str k (n:Int) M):=fun p hp=>by
 rcases eR (kt:=.str) hp with rfl|hp
 ·exact⟨dD n,by show(n:Int)<_;omega⟩
 ·have:=h p hp
  exact⟨this.1,by omega⟩
theorem Sc_set'(l:Zv)(i:Nat)(v:xw):Sc (l.set i v)=(Sc l).set i v.2.2.1:=List.map_set ..
theorem nRule_eq(i u m:OM)(l:Zn)(k:Nat)(a:dq)(fs:List OM)(hb:BRule a)(hm:VR fs.length (bM m)):W (rT i u m l k a fs) (ST (fun _=>True) fun r=>∃x1 x2 x3 x4 x5 x6,r=(i,u,m,l,k,x1,x2,x3,fs,x4,x5,x6)):=by
 have hB:=hB
 unfold rT
 refine findW hm ⟨_,rfl,trivial⟩ fun y1 y0 yK=>?_
 have e1:wL a.2.2.1=some a.2.2.1:=gG _ _ hb.1
 rw[e1,aJ]
 have l1:a.2.2.1.length≤aE:=by have:=hb.1;omega
 have l2:a.2.2.2.1.length≤aE:=by have:=hb.2.1;omega
 have l3:a.2.2.2.2.1.length≤aE:=by have:=hb.2.2;omega
 refine bN.2 (W.ct (cD (L:=sY) rfl (CT (fun d=>∃s V,d=(i,u,m,l,k,a.1,y1,a.2.2.2,fs,s,V)∧s.length=a.2.2.1.length∧VR s.length V∧VS s.length fs.length (Sc s)) fun r=>r= .inl ((),())) a.2.2.1.length (fun c(s:Zv×Zo)=>((a.2.2.1.length:Int),(c:Int),i,u,m,l,k,a.1,y1,a.2.2.2,fs,s.1,s.2)) (fun c s=>s.1.length=a.2.2.1.length∧s.2.length≤c∧VR c s.2∧VS c fs.length (Sc s.1)) ?step ?stop _ 0 (a.2.2.1,[]) (by omega) (by omega) ⟨rfl,cL _,fun p hp=>(by cases hp),fg _,fun j hj hj0=>absurd hj0 (Nat.not_lt_zero _)⟩) (fun d ⟨s,V,h,hsl,hVR,hVS⟩=>?_) fun r h=>?_)
 case step=>
  rintro rec c ⟨s,V⟩ hc ⟨hsl,hVl,hVR,hVS⟩ kk
  dsimp only at hsl hVl hVR hVS ⊢
  have hw:=ka c (by omega)
  rw[cH (by omega),ei c,aA (show(c:Int)<(s.length:Int) by omega)]
  refine bN.2 (findW hm ⟨_,rfl,rfl⟩ fun x x0 xK=>⟨_,rfl,?_⟩)
  rw[ir]
  generalize hL:List.set _ _ _=L
  have hS:Sc L=(Sc s).set c x:=by rw[←hL,Sc_set',dO]
  have hLl:L.length=a.2.2.1.length:=by rw[←hL,bQ];exact hsl
  clear hL
  dsimp only
  refine kW.2 ((nTerm1 (Int.toNat (c:Int)) L V i u m l k a.1 y1 a.2.2.2 fs c (by rw[dO];omega) hVR (by rw[hS];exact hVS.cong x)).st (fun _ _=>⟨_,rfl,rfl⟩) fun r ⟨L',hr,hL'⟩=>?_)
  subst hr
  dsimp only
  rw[aA (show V.length+1≤aE by omega)]
  rw[hw]
  refine kk (L',bB .str (List.getD L' (Int.toNat (c:Int)) (Ty.aD aL)).1 (c:Int) V) ⟨?_,cG (dr (kt:=.str)) (by omega),VR.push (n:=c) hVR _,?_⟩
  ·have:=congrArg List.length hL'
   rw[Sc_len,Sc_len] at this
   exact this.trans hLl
  ·show VS (c+1) fs.length (Sc L')
   rw[hL',hS]
   exact hVS.push (by rw[Sc_len];omega) x0 xK
 case stop=>
  rintro rec ⟨s,V⟩ ⟨hsl,hVl,hVR,hVS⟩
  dsimp only at hsl hVl hVR hVS ⊢
  rw[gu (by omega)]
  exact⟨_,rfl,s,V,rfl,hsl,hsl▸hVR,hsl▸hVS⟩
 ·subst h
  dsimp only
  have e2:wM a.2.2.2.1=some a.2.2.2.1:=gG _ _ hb.2.1
  rw[e2,aJ]
  refine bN.2 (W.ct (cD (L:=qM) rfl (CT (fun d=>∃w,d=(i,u,m,l,k,a.1,y1,a.2.2.2.2,fs,s,V,w)) fun r=>r= .inl ((),())) a.2.2.2.1.length (fun c(w:Zx)=>((a.2.2.2.1.length:Int),(c:Int),i,u,m,l,k,a.1,y1,a.2.2.2.2,fs,s,V,w)) (fun _ w=>w.length=a.2.2.2.1.length) ?step ?stop _ 0 a.2.2.2.1 (by omega) (by omega) rfl) (fun d ⟨w,h⟩=>?_) fun r h=>?_)
  case step=>
   intro rec c w hc hI kk
   dsimp only
   have hw:=ka c (by omega)
   rw[cH (by omega),ei c,aA (show(c:Int)<(w.length:Int) by omega)]
   refine kW.2 ((nTerm2 (Int.toNat (c:Int)) w V i u m l k a.1 y1 a.2.2.2.2 fs s s.length (by rw[dO];omega) hVR hVS).st (fun _ _=>⟨_,rfl,rfl⟩) fun r ⟨w',hr,hw'⟩=>?_)
   subst hr
   dsimp only
   rw[ei c,aA (show(c:Int)<(w'.length:Int) by omega)]
   refine kW.2 ((nTerm3 (Int.toNat (c:Int)) w' V i u m l k a.1 y1 a.2.2.2.2 fs s s.length (by rw[dO];omega) hVR hVS).st (fun _ _=>⟨_,rfl,rfl⟩) fun r ⟨w2,hr,hw2⟩=>?_)
   subst hr
   rw[hw]
   exact kk w2 (hw2.trans (hw'.trans hI))
  case stop=>
   intro rec w hI
   dsimp only
   rw[gu (by omega)]
   exact⟨_,rfl,w,rfl⟩
  ·subst h
   dsimp only
   have e3:wV a.2.2.2.2.1=some a.2.2.2.2.1:=gG _ _ hb.2.2
   rw[e3,aJ]
   refine bN.2 (W.ct (cD (L:=qN) rfl (CT (fun d=>∃z,d=(i,u,m,l,k,a.1,y1,(),fs,s,w,z)) fun r=>r= .inl ((),())) a.2.2.2.2.1.length (fun c(z:Zy)=>((a.2.2.2.2.1.length:Int),(c:Int),i,u,m,l,k,a.1,y1,a.2.2.2.2.2,fs,s,V,w,z)) (fun _ z=>z.length=a.2.2.2.2.1.length) ?step ?stop _ 0 a.2.2.2.2.1 (by omega) (by omega) rfl) (fun d ⟨z,h⟩=>?_) fun r h=>?_)
   case step=>
    intro rec c z hc hI kk
    dsimp only
    have hz:(c:Int)<(z.length:Int):=by omega
    have hw:=ka c (by omega)
    rw[cH (by omega),aA y0,aA yK,ei c,aA hz]
    refine findU _ ⟨_,rfl,rfl⟩ fun x=>?_
    rw[ei c,aA hz]
    generalize hZ:List.set z _ _=Z
    have hZl:Z.length=a.2.2.2.2.1.length:=by rw[←hZ,bQ];exact hI
    clear hZ
    rw[ei c,aA (show(c:Int)<(Z.length:Int) by omega)]
    refine kW.2 ((nTerm4 (Int.toNat (c:Int)) Z V i u m l k a.1 y1 a.2.2.2.2.2 fs s w s.length (by rw[dO];omega) hVR hVS).st (fun _ _=>⟨_,rfl,rfl⟩) fun r ⟨w2,hr,hw2⟩=>?_)
    subst hr
    rw[hw]
    exact kk w2 (hw2.trans hZl)
   case stop=>
    intro rec z hI
    dsimp only
    rw[gu (by omega)]
    exact⟨_,rfl,z,rfl⟩
   ·subst h
    exact⟨_,rfl,_,_,_,_,_,_,rfl⟩
   ·subst h;exact trivial
  ·subst h;exact trivial
 ·subst h;exact trivial
theorem nConvert_eq(i u m:OM)(l:ZC)(k:Nat)(a:pZ)(fs:List OM)(hb:a.2.2.2.2.1.length*56≤aE)(hm:VR fs.length (bM m)):W (rU i u m l k a fs) (ST (fun _=>True) fun r=>∃x1 x2 x3 x4 x5 x6,r=(i,u,m,l,k,x1,x2,x3,x4,x5,fs,x6)):=by
 have hB:=hB
 unfold rU
 refine findW hm ⟨_,rfl,trivial⟩ fun y1 y0 yK=>findW hm ⟨_,rfl,trivial⟩ fun y2 z0 zK=>?_
 have e1:wW a.2.2.2.2.1=some a.2.2.2.2.1:=gG _ _ hb
 rw[e1,aJ]
 refine bN.2 (W.ct (cD (L:=sZ) rfl (CT (fun d=>∃s,d=(i,u,m,l,k,a.1,a.2.1,y1,y2,a.2.2.2.2.2,fs,s)) fun r=>r= .inl ((),())) a.2.2.2.2.1.length (fun c(s:Zq)=>((a.2.2.2.2.1.length:Int),(c:Int),i,u,m,l,k,a.1,a.2.1,y1,y2,a.2.2.2.2.2,fs,s)) (fun _ s=>s.length=a.2.2.2.2.1.length) ?step ?stop _ 0 a.2.2.2.2.1 (by omega) (by omega) rfl) (fun d ⟨w,h⟩=>?_) fun r h=>?_)
 case step=>
  intro rec c s hc hI kk
  dsimp only
  have hw:=ka c (by omega)
  rw[cH (by omega),ei c,aA (show(c:Int)<(s.length:Int) by omega),aA y0,aA yK]
  refine findU _ ?_ fun x=>?_
  ·rw[aA z0,aA zK];exact⟨_,rfl,rfl⟩
  ·rw[aA z0,aA zK]
   refine findU _ ⟨_,rfl,rfl⟩ fun y=>?_
   rw[hw]
   exact kk _ (by rw[bQ,bQ];exact hI)
 case stop=>
  intro rec s hI
  dsimp only
  rw[gu (by omega)]
  exact⟨_,rfl,s,rfl⟩
 ·subst h
  exact⟨_,rfl,_,_,_,_,_,_,rfl⟩
 ·subst h;exact trivial
theorem nPurpose_eq(i u m:OM)(l:Zz)(k:Nat)(a:mU)(fs:List OM)(hb:a.2.1.length*48≤aE)(hm:VR fs.length (bM m)):W (rV i u m l k a fs) (ST (fun _=>True) fun r=>∃x1 x2 x3,r=(i,u,m,l,k,x1,x2,fs,x3)):=by
 have hB:=hB
 unfold rV
 have e1:wX a.2.1=some a.2.1:=gG _ _ hb
 rw[e1,aJ]
 refine bN.2 (W.ct (cD (L:=tc) rfl (CT (fun d=>∃s,d=(i,u,m,l,k,a.1,a.2.2,fs,s)) fun r=>r= .inl ((),())) a.2.1.length (fun c(s:List nL)=>((a.2.1.length:Int),(c:Int),i,u,m,l,k,a.1,a.2.2,fs,s)) (fun _ s=>s.length=a.2.1.length) ?step ?stop _ 0 a.2.1 (by omega) (by omega) rfl) (fun d ⟨w,h⟩=>?_) fun r h=>?_)
 case step=>
  intro rec c s hc hI kk
  dsimp only
  have hw:=ka c (by omega)
  rw[cH (by omega),ei c,aA (show(c:Int)<(s.length:Int) by omega)]
  refine bN.2 (findW hm ⟨_,rfl,rfl⟩ fun x x0 xK=>⟨_,rfl,?_⟩)
  rw[ir]
  generalize hM:List.set _ _ _=M
  have hg:(List.getD M (Int.toNat (c:Int)) (Ty.aD eA)).2.2.1=x:=by rw[←hM,getD_set_self (by rw[dO];omega)]
  have hM':M.length=a.2.1.length:=by rw[←hM,bQ];exact hI
  clear hM
  dsimp only
  rw[hg,aA x0,aA xK]
  refine findU _ ⟨_,rfl,rfl⟩ fun y=>?_
  rw[hw]
  exact kk _ (by rw[bQ];exact hM')
 case stop=>
  intro rec s hI
  dsimp only
  rw[gu (by omega)]
  exact⟨_,rfl,s,rfl⟩
 ·subst h
  exact⟨_,rfl,_,_,_,rfl⟩
 ·subst h;exact trivial
structure BS(s:cz):Prop where
 issuers:s.1.length*16≤aE
 units:s.2.1.length*56≤aE
 schemas:s.2.2.1.length*96≤aE
 rules:s.2.2.2.1.length*96≤aE
 converts:s.2.2.2.2.1.length*72≤aE
 purposes:s.2.2.2.2.2.1.length*48≤aE
 sch:∀x∈s.2.2.1,BSch x
 rl:∀x∈s.2.2.2.1,BRule x
 cv:∀x∈s.2.2.2.2.1,x.2.2.2.2.1.length*56≤aE
 pu:∀x∈s.2.2.2.2.2.1,x.2.1.length*48≤aE
def TailP{α:Type}(P:α→Prop)(c:Nat)(l:List α):Prop:=∀j(h:j<l.length),c≤j→P l[j]
theorem TailP.of{α:Type}{P:α→Prop}{l:List α}(h:∀x∈l,P x):TailP P 0 l:=fun _ hj _=>h _ (jn hj)
theorem TailP.next{α:Type}{P:α→Prop}{c:Nat}{l:List α}(h:TailP P c l)(v:α):TailP P (c+1) (l.set (Int.toNat (c:Int)) v):=fun j hj hc=>by
 have hj':j<l.length:=by rw[bQ] at hj;exact hj
 rw[List.getElem_set_ne (by rw[dO];omega)]
 exact h j hj' (by omega)
theorem TailP.here{t:Ty}{P:t.den→Prop}{c:Nat}{l:List t.den}(h:TailP P c l)(hc:c<l.length):P (nth t l (c:Int)):=by
 rw[cT (t:=t) hc]
 exact h c hc (cL _)
theorem resolve_ans(s:cz)(hs:SS s)(hb:BS s):W (f80 s) fun _=>True:=by
 have hB:=hB
 obtain⟨tw,i,u,m,fs,e,hi,hu,hm,hl,hf⟩:=gather_eq s hs hb.schemas
 unfold f80
 rw[e,aJ]
 dsimp only
 split
 ·exact⟨_,rfl,trivial⟩
 ·have e1:wz s.1=some s.1:=gG _ _ hb.issuers
  have e2:wC s.2.1=some s.2.1:=gG _ _ hb.units
  have e3:wD s.2.2.1=some s.2.2.1:=gG _ _ hb.schemas
  have e4:wE s.2.2.2.1=some s.2.2.2.1:=gG _ _ hb.rules
  have e5:wG s.2.2.2.2.1=some s.2.2.2.2.1:=gG _ _ hb.converts
  have e6:wH s.2.2.2.2.2.1=some s.2.2.2.2.2.1:=gG _ _ hb.purposes
  rw[e1,aJ,e2,aJ,e3,aJ,e4,aJ,e5,aJ,e6,aJ]
  have k3:=hs.schemas
  have k4:=hs.rules
  have k5:=hs.converts
  have k6:=hs.purposes
  have p3:=TailP.of hb.sch
  have p4:=TailP.of hb.rl
  have p5:=TailP.of hb.cv
  have p6:=TailP.of hb.pu
  have qu:=nUnits_eq i u m s.2.1 fs hs.units hu
  rw[←hl] at hm
  generalize s.1=v1 at*
  generalize s.2.1=v2 at*
  generalize s.2.2.1=v3 at*
  generalize s.2.2.2.1=v4 at*
  generalize s.2.2.2.2.1=v5 at*
  generalize s.2.2.2.2.2.1=v6 at*
  refine kW.2 (qu.st (fun _ _=>⟨_,rfl,trivial⟩) fun r ⟨us,hr⟩=>?_)
  subst hr
  dsimp only
  refine bN.2 (W.ct (cD (L:=Fj) rfl (CT (fun d=>∃p,d=((0:Int),i,u,m,v1,us,p,v4,v5,v6,fs)) fun _=>True) v3.length (fun c(p:ZA)=>((v3.length:Int),(c:Int),0,i,u,m,v1,us,p,v4,v5,v6,fs)) (fun c p=>p.length=v3.length∧TailP BSch c p) ?step ?stop _ 0 v3 (by omega) (by omega) ⟨rfl,p3⟩) (fun d ⟨w3,h⟩=>?_) fun _ _=>trivial)
  case step=>
   rintro rec c p hc ⟨hp,hT⟩ kk
   dsimp only
   have hcp:c<p.length:=by omega
   have hw:=ka c (by omega)
   rw[cH (by omega),ei c,aA (show(c:Int)<(p.length:Int) by omega),ei c,aA rfl,ei c,aA (show(c:Int)<(fs.length:Int) by omega)]
   refine kW.2 ((nSchema_eq _ i u m p _ _ fs (hT.here (t:=bG) hcp)).st (fun _ _=>⟨_,rfl,trivial⟩) fun r ⟨x1,x2,x3,x4,x5,x6,x7,hr⟩=>?_)
   subst hr
   rw[hw]
   exact kk _ ⟨by rw[bQ];exact hp,hT.next _⟩
  case stop=>
   rintro rec p ⟨hp,hT⟩
   dsimp only
   rw[gu (by omega)]
   exact⟨_,rfl,p,rfl⟩
  subst h
  dsimp only
  refine bN.2 (W.ct (cD (L:=CY) rfl (CT (fun d=>∃p,d=((0:Int),i,u,m,v1,us,w3,p,v5,v6,fs)) fun _=>True) v4.length (fun c(p:Zn)=>((v4.length:Int),(c:Int),0,i,u,m,v1,us,w3,p,v5,v6,fs)) (fun c p=>p.length=v4.length∧TailP BRule c p) ?step ?stop _ 0 v4 (by omega) (by omega) ⟨rfl,p4⟩) (fun d ⟨w4,h⟩=>?_) fun _ _=>trivial)
  case step=>
   rintro rec c p hc ⟨hp,hT⟩ kk
   dsimp only
   have hcp:c<p.length:=by omega
   have hw:=ka c (by omega)
   rw[cH (by omega),ei c,aA (show(c:Int)<(p.length:Int) by omega),ei c,aA rfl]
   refine kW.2 ((nRule_eq i u m p _ _ fs (hT.here (t:=bz) hcp) hm).st (fun _ _=>⟨_,rfl,trivial⟩) fun r ⟨x1,x2,x3,x4,x5,x6,hr⟩=>?_)
   subst hr
   rw[hw]
   exact kk _ ⟨by rw[bQ];exact hp,hT.next _⟩
  case stop=>
   rintro rec p ⟨hp,hT⟩
   dsimp only
   rw[gu (by omega)]
   exact⟨_,rfl,p,rfl⟩
  subst h
  dsimp only
  refine bN.2 (W.ct (cD (L:=CZ) rfl (CT (fun d=>∃p,d=((0:Int),i,u,m,v1,us,w3,w4,p,v6,fs)) fun _=>True) v5.length (fun c(p:ZC)=>((v5.length:Int),(c:Int),0,i,u,m,v1,us,w3,w4,p,v6,fs)) (fun c p=>p.length=v5.length∧TailP (fun x:pZ=>x.2.2.2.2.1.length*56≤aE) c p) ?step ?stop _ 0 v5 (by omega) (by omega) ⟨rfl,p5⟩) (fun d ⟨w5,h⟩=>?_) fun _ _=>trivial)
  case step=>
   rintro rec c p hc ⟨hp,hT⟩ kk
   dsimp only
   have hcp:c<p.length:=by omega
   have hw:=ka c (by omega)
   rw[cH (by omega),ei c,aA (show(c:Int)<(p.length:Int) by omega),ei c,aA rfl]
   refine kW.2 ((nConvert_eq i u m p _ _ fs (hT.here (t:=fa) hcp) hm).st (fun _ _=>⟨_,rfl,trivial⟩) fun r ⟨x1,x2,x3,x4,x5,x6,hr⟩=>?_)
   subst hr
   rw[hw]
   exact kk _ ⟨by rw[bQ];exact hp,hT.next _⟩
  case stop=>
   rintro rec p ⟨hp,hT⟩
   dsimp only
   rw[gu (by omega)]
   exact⟨_,rfl,p,rfl⟩
  subst h
  dsimp only
  refine bN.2 (W.ct (cD (L:=C0) rfl (CT (fun _=>True) fun _=>True) v6.length (fun c(p:Zz)=>((v6.length:Int),(c:Int),0,i,u,m,v1,us,w3,w4,w5,p,fs)) (fun c p=>p.length=v6.length∧TailP (fun x:mU=>x.2.1.length*48≤aE) c p) ?step ?stop _ 0 v6 (by omega) (by omega) ⟨rfl,p6⟩) (fun d h=>?_) fun _ _=>trivial)
  case step=>
   rintro rec c p hc ⟨hp,hT⟩ kk
   dsimp only
   have hcp:c<p.length:=by omega
   have hw:=ka c (by omega)
   rw[cH (by omega),ei c,aA (show(c:Int)<(p.length:Int) by omega),ei c,aA rfl]
   refine kW.2 ((nPurpose_eq i u m p _ _ fs (hT.here (t:=dk) hcp) hm).st (fun _ _=>⟨_,rfl,trivial⟩) fun r ⟨x1,x2,x3,hr⟩=>?_)
   subst hr
   rw[hw]
   exact kk _ ⟨by rw[bQ];exact hp,hT.next _⟩
  case stop=>
   rintro rec p ⟨hp,hT⟩
   dsimp only
   rw[gu (by omega)]
   exact⟨_,rfl,trivial⟩
  exact⟨_,rfl,trivial⟩
theorem resolved_ans(s:cz)(hs:SS s)(hb:BS s):∃r,f56 s=some r:=by
 obtain⟨⟨a,b⟩,e,_⟩:=resolve_ans s hs hb
 unfold f56
 rw[e,aJ]
 dsimp only
 obtain⟨q,hq⟩:=same_ans a s hs
 rw[hq,aJ]
 repeat' (first|exact⟨_,rfl⟩|split)
structure SA(s:cz):Prop where
 ss:SS s
 bs:BS s
 sw:SW s
structure CG(s:cz)(l:Ze):Prop where
 tg:TG s
 rk:Ranked s l
 sw:SW s
theorem lower_eq(s:cz)(hs:SA s):∃r,f36 s=some r∧(r.1=0→r.2.1=s∧CG s r.2.2.1):=by
 have no:∀(x:Int)(y:EE),(!decide (x=(0:Int)))=true→∃r,some (x,y)=some r∧(r.1=0→r.2.1=s∧CG s r.2.2.1):=fun x y hx=>⟨_,rfl,fun h=>by
  have:x=0:=h
  subst this
  cases hx⟩
 unfold f36
 obtain⟨r1,e1⟩:=resolved_ans s hs.ss hs.bs
 obtain⟨r2,e2,_⟩:=tcheck_eq s hs.sw
 obtain⟨r3,e3⟩:=determined_ans s hs.ss
 obtain⟨r4,e4,m4⟩:=ordered_eq s hs.sw
 obtain⟨r5,e5⟩:=vcheck_ans s hs.sw.nb hs.ss
 rw[e1,aJ]
 by_cases h1:(!decide (r1=(0:Int)))=true
 ·rw[aA h1];exact no _ _ h1
 ·rw[aC h1,e2,aJ]
  by_cases h2:(!decide (r2=(0:Int)))=true
  ·rw[aA h2];exact no _ _ h2
  ·rw[aC h2,e3,aJ]
   by_cases h3:(!decide (r3=(0:Int)))=true
   ·rw[aA h3];exact no _ _ h3
   ·rw[aC h3,e4,aJ]
    by_cases h4:(!decide (r4=(0:Int)))=true
    ·rw[aA h4];exact no _ _ h4
    ·rw[aC h4,e5,aJ]
     by_cases h5:(!decide (r5=(0:Int)))=true
     ·rw[aA h5];exact no _ _ h5
     ·rw[aC h5,aH]
      obtain⟨hT,l,ho,hR⟩:=m4 (by simpa using h4)
      rw[ho,aJ]
      exact⟨_,rfl,fun _=>⟨rfl,hT,hR,hs.sw⟩⟩
theorem check_eq(g:EE)(hs:SA g.1):∃r,f18 g=some r∧(r=0→∃l,CG g.1 l):=by
 obtain⟨⟨r,b⟩,e,hm⟩:=lower_eq g.1 hs
 unfold f18
 rw[e,aJ]
 dsimp only
 by_cases h:r=0
 ·subst h
  obtain⟨hb,hc⟩:=hm rfl
  have yes:∀y:ZM,(∃z,y=some z)→∃r,y=some r∧(r=0→∃l,CG g.1 l):=fun y ⟨z,hz⟩=>⟨z,hz,fun _=>⟨_,hc⟩⟩
  apply yes
  obtain⟨q,hq⟩:=same_ans b.1 g.1 hs.ss
  obtain⟨q2,hq2⟩:∃r,f63 b.2.1 g.2.1=some r:=Hd (.int .i64) (fun a b=>decide (a=b)) _ _ fun _=>cG hc.rk.len (by have:=hc.tg.many;have:=hB;omega)
  unfold f37
  rw[hq]
  cases q<;>cases q2<;>simp only[aJ,hq2]<;>simp
 ·refine⟨160,?_,fun h'=>(by cases h')⟩
  rw[aA (by simp[h])]
  rfl
theorem sa_of{s:cz}(h:wf gE s):SA s where
 ss:=
  {issuers:=h.1.2.1
   units:=h.2.1.2.1
   schemas:=h.2.2.1.2.1
   rules:=h.2.2.2.1.2.1
   converts:=h.2.2.2.2.1.2.1
   purposes:=h.2.2.2.2.2.1.2.1
   fields:=fun x hx=>⟨(h.2.2.1.2.2 x hx).2.2.2.2.1.2.1,fun f hf=>((h.2.2.1.2.2 x hx).2.2.2.2.1.2.2 f hf).2.1.2.2.2.2.2.1.2.1⟩
   depends:=fun x hx=>⟨(h.2.2.1.2.2 x hx).2.2.2.2.2.1.2.1,fun d hd=>⟨((h.2.2.1.2.2 x hx).2.2.2.2.2.1.2.2 d hd).1.2.1,((h.2.2.1.2.2 x hx).2.2.2.2.2.1.2.2 d hd).2.2.1.2.1⟩⟩
   rl:=fun r hr=>⟨(h.2.2.2.1.2.2 r hr).2.2.1.2.1,(h.2.2.2.1.2.2 r hr).2.2.2.1.2.1,(h.2.2.2.1.2.2 r hr).2.2.2.2.1.2.1⟩
   mv:=fun c hc=>(h.2.2.2.2.1.2.2 c hc).2.2.2.2.1.2.1
   may:=fun p hp=>(h.2.2.2.2.2.1.2.2 p hp).2.1.2.1}
 bs:=
  {issuers:=h.1.1
   units:=h.2.1.1
   schemas:=h.2.2.1.1
   rules:=h.2.2.2.1.1
   converts:=h.2.2.2.2.1.1
   purposes:=h.2.2.2.2.2.1.1
   sch:=fun x hx=>⟨(h.2.2.1.2.2 x hx).2.2.2.2.1.1,(h.2.2.1.2.2 x hx).2.2.2.2.2.1.1,fun d hd=>((h.2.2.1.2.2 x hx).2.2.2.2.2.1.2.2 d hd).1.1⟩
   rl:=fun r hr=>⟨(h.2.2.2.1.2.2 r hr).2.2.1.1,(h.2.2.2.1.2.2 r hr).2.2.2.1.1,(h.2.2.2.1.2.2 r hr).2.2.2.2.1.1⟩
   cv:=fun c hc=>(h.2.2.2.2.1.2.2 c hc).2.2.2.2.1.1
   pu:=fun p hp=>(h.2.2.2.2.2.1.2.2 p hp).2.1.1}
 sw:=
  {units:=h.2.1.2.1
   schemas:=h.2.2.1.2.1
   rules:=h.2.2.2.1.2.1
   purposes:=h.2.2.2.2.2.1.2.1
   nb:=fun x hx=>⟨(h.2.2.1.2.2 x hx).2.2.2.2.1.2.1,fun f hf=>((h.2.2.1.2.2 x hx).2.2.2.2.1.2.2 f hf).2.1.2.2.2.2.2.1.2.1⟩
   rl:=fun r hr=>⟨(h.2.2.2.1.2.2 r hr).2.2.1.2.1,(h.2.2.2.1.2.2 r hr).2.2.2.1.2.1,(h.2.2.2.1.2.2 r hr).2.2.2.2.1.1⟩
   may:=fun p hp=>(h.2.2.2.2.2.1.2.2 p hp).2.1.2.1}
end Go.Proofs.YtgdcjlldafmomaaGreat
