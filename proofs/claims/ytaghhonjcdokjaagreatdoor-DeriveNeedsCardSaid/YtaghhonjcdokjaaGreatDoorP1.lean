/- part -/
import Derived.Test.YtaghhonjcdokjaaGreatDoorUO
import Derived.Test.YtaghhonjcdokjaaGreatDoorA5
import Derived.Test.YtaghhonjcdokjaaGreatDoorF7
noncomputable section
namespace Go.Proofs.YtaghhonjcdokjaaGreatDoor
open Go.Ax
theorem hB:aG=140737488355328:=rfl
theorem zQ{l:Zf}{i j:Nat}(hi:i<l.length)(hj:j<l.length):lE (i:Int) (j:Int) l=some (decide (l[i]<l[j]),l):=by
 have h1:(i:Int)<(l.length:Int):=by omega
 have h2:(j:Int)<(l.length:Int):=by omega
 simp only[lE,eB,h1,h2,bZ,ew (t:=.int .i64) hi,ew (t:=.int .i64) hj]
theorem swap_eq{l:Zf}{i j:Nat}(hi:i<l.length)(hj:j<l.length):∃l',j8 (i:Int) (j:Int) l=some l'∧l'.Perm l:=by
 have h1:(i:Int)<(l.length:Int):=by omega
 have h2:(j:Int)<(l.length:Int):=by omega
 refine⟨(l.set i l[j]).set j l[i],?_,List.set_set_perm hi hj⟩
 simp only[j8,eB,h1,h2,bU,bZ,ew (t:=.int .i64) hi,ew (t:=.int .i64) hj,fb]
theorem upL:∀(n c:Nat)(d:Zf),c<n→c<d.length→d.length≤aG→W (oY n ((c:Int),d)) (CT (fun d'=>d'.Perm d) fun _=>False):=by
 intro n
 induction n with
 |zero=>intro c d h;omega
 |
  succ n ih=>
  intro c d hn hc hb
  unfold oY at ih ⊢
  rw[aO]
  generalize aM _ n=rec at ih ⊢
  have hB:=hB
  dsimp only
  cases c with
  |
   zero=>
   rw[aA (by decide)]
   exact qT.2 (jo.2 (List.Perm.refl _))
  |
   succ c=>
   have e1:bB (((c+1:Nat):Int) -1)=(c:Int):=by rw[ib (by omega) (by omega)];omega
   have e2:bB (Int.tdiv (c:Int) 2)=((c / 2:Nat):Int):=by
    have:Int.tdiv (c:Int) 2=((c / 2:Nat):Int):=rfl
    rw[this,ib (by omega) (by omega)]
   rw[e1,e2,aD (by rw[mT];omega),zQ hc (by omega),aK]
   dsimp only
   by_cases hl:d[c+1]<d[c / 2]
   ·rw[aD (by simp[hl])]
    obtain⟨l',e,p⟩:=swap_eq (l:=d) (i:=c / 2) (j:=c+1) (by omega) hc
    rw[e,aK]
    exact(ih (c / 2) l' (by omega) (by rw[p.length_eq];omega) (by rw[p.length_eq];exact hb)).ct (fun _ h=>h.trans p) fun _ h=>h
   ·rw[aA (by simp[hl])]
    exact qT.2 (jo.2 (List.Perm.refl _))
theorem Gr{a:Int}{l:Zf}(h:(l.length+1)*8≤aG):∃q,qc a l=some q∧q.Perm (a::l):=by
 have hB:=hB
 have e1:zp a l=some (l++[a]):=aA h
 have e2:qb (l++[a])=some (((l++[a]).length:Int),l++[a]):=rfl
 have hl:(l++[a]).length=l.length+1:=by rw[eI];rfl
 have e3:bB (((l++[a]).length:Int) -1)=(l.length:Int):=by rw[hl,ib (by omega) (by omega)];omega
 obtain⟨o,ho,hp⟩:=upL gn l.length (l++[a]) (CE (by omega)) (by omega) (by omega)
 unfold qc
 rw[e1,aK,e2,aK]
 dsimp only
 rw[e3]
 unfold zo
 rw[ho]
 cases o with
 |brk d=>exact⟨d,rfl,(show d.Perm (l++[a]) from hp).trans (List.perm_append_singleton a l)⟩
 |ret r=>exact(show False from hp).elim
theorem UL:∀(m:Nat)(q:Int)(o p:Nat)(r:Zf),o -p<m→p≤o→o≤r.length→r.length≤aG→
 W (lN m (q,(o:Int),(p:Int),r)) (CT (fun u=>u.2.2.Perm r) fun _=>False):=by
 intro m
 induction m with
 |zero=>intro q o p r h;omega
 |
  succ m ih=>
  intro q o p r hm hpo hor hb
  unfold lN at ih ⊢
  rw[aO]
  generalize aM _ m=rec at ih ⊢
  have hB:=hB
  dsimp only
  have e0:bB ((2:Int)*(p:Int))=((2*p:Nat):Int):=by rw[ib (by omega) (by omega)];omega
  have e1:bB (((2*p:Nat):Int)+1)=((2*p+1:Nat):Int):=by rw[ib (by omega) (by omega)];omega
  rw[e0,e1]
  by_cases h1:o≤2*p+1
  ·rw[aA (show decide ((o:Int)≤((2*p+1:Nat):Int))=true by simp only[mT];omega),aK,aA rfl]
   exact qT.2 (jo.2 (List.Perm.refl _))
  ·rw[aD (show¬decide ((o:Int)≤((2*p+1:Nat):Int))=true by simp only[mT];omega),aK,gY (by omega),aJ]
   dsimp only
   have e2:bB (((2*p+1:Nat):Int)+1)=((2*p+2:Nat):Int):=by rw[ib (by omega) (by omega)];omega
   rw[e2]
   have key:∀j:Nat,p<j→j<o→W (Option.bind (lE (j:Int) (p:Int) r) fun⟨m',n⟩=>if(!m')=true then(some (.brk (q,(p:Int),n))) else(Option.bind (j8 (p:Int) (j:Int) n) fun y9=>rec (q,(o:Int),(j:Int),y9))) (CT (fun u:Int×Int×Zf=>u.2.2.Perm r) fun _:Bool×Zf=>False):=by
    intro j hj1 hj2
    rw[zQ (by omega) (by omega),aK]
    dsimp only
    split
    ·exact qT.2 (jo.2 (List.Perm.refl _))
    ·obtain⟨l',e,pm⟩:=swap_eq (l:=r) (i:=p) (j:=j) (by omega) (by omega)
     rw[e,aK]
     exact(ih q o j l' (by omega) (by omega) (by rw[pm.length_eq];omega) (by rw[pm.length_eq];exact hb)).ct (fun _ h=>h.trans pm) fun _ h=>h
   by_cases h2:2*p+2<o
   ·rw[aA (show decide (((2*p+2:Nat):Int)<(o:Int))=true by simp only[mT];omega),zQ (by omega) (by omega),aK]
    dsimp only
    split
    ·rw[aJ];exact key _ (by omega) h2
    ·rw[aJ];exact key _ (by omega) (by omega)
   ·rw[aD (show¬decide (((2*p+2:Nat):Int)<(o:Int))=true by simp only[mT];omega),aJ]
    exact key _ (by omega) (by omega)
theorem Sa{l:Zf}(hne:l≠[])(hb:l.length≤aG):∃x q,lO l=some (x,q)∧(x::q).Perm l:=by
 have hB:=hB
 have hpos:0<l.length:=List.length_pos_iff.2 hne
 obtain⟨n,hn⟩:∃n,l.length=n+1:=⟨l.length -1,by omega⟩
 have e2:qb l=some ((l.length:Int),l):=rfl
 have e3:bB ((l.length:Int) -1)=(n:Int):=by rw[hn,ib (by omega) (by omega)];omega
 obtain⟨l',e4,p4⟩:=swap_eq (l:=l) (i:=0) (j:=n) (by omega) (by omega)
 have hl':l'.length=n+1:=by rw[p4.length_eq,hn]
 obtain⟨o,ho,hp⟩:=UL gn 0 n 0 l' (CE (by omega)) (by omega) (by omega) (by omega)
 cases o with
 |ret r=>exact(show False from hp).elim
 |
  brk d=>
  obtain⟨d1,d2,c⟩:=d
  have pc:c.Perm l':=hp
  have hc:c.length=n+1:=by rw[pc.length_eq,hl']
  have e5:tL 0 (n:Int) l'=some (decide (d1<d2),c):=by
   unfold tL
   have ho':lN gn ((0:Int),(n:Int),(0:Int),l')=some (.brk (d1,d2,c)):=ho
   rw[ho',aJ]
  have e6:tM c=some (c[n]'(by omega),c.take n):=by
   have h7:bB ((c.length:Int) -1)=(n:Int):=by rw[hc,ib (by omega) (by omega)];omega
   have h8:(n:Int)<(c.length:Int):=by omega
   have h9:(n:Int)≤(c.length:Int):=by omega
   simp only[tM,h7,eB,h8,h9,bZ,ew (t:=.int .i64) (show n<c.length by omega),fb,Nat.sub_zero]
  refine⟨c[n]'(by omega),c.take n,?_,?_⟩
  ·unfold lO
   rw[e2,aK]
   dsimp only
   rw[e3]
   have e4':j8 (0:Int) (n:Int) l=some l':=e4
   rw[e4',aK,e5,aK]
   dsimp only
   rw[e6,aK]
  ·have h:c.take n++[c[n]'(by omega)]=c:=by
    have:=kT n c
    rw[kU (show n<c.length by omega),sc (by omega)] at this
    exact this
   have q:=List.perm_append_singleton (c[n]'(by omega)) (c.take n)
   rw[h] at q
   exact q.symm.trans (pc.trans p4)
theorem oD{α:Type}:∀{l:List α}{i:Nat}(h:i<l.length),(l[i]::l.eraseIdx i).Perm l
 |x::l,0,_=>List.Perm.refl _
 |
  x::l,i+1,h=>by
  have h':i<l.length:=by rw[fc] at h;omega
  exact(List.Perm.swap x l[i] _).trans ((oD h').cons x)
def nd(g:jf)(h:Int):Zu:=bK (bE (.int .i64) (.map (.int .i64) .bool) h (bK g.2.1))
def ks(g:jf)(h:Int):Zf:=(nd g h).map (·.1)
def kz(e:ZJ)(k:Zf)(f:Int):ZJ:=e.mapIdx fun j row=>if(j:Int)∈k then row++[f] else row
theorem kZ(e:ZJ)(k:Zf)(f:Int):(kz e k f).length=e.length:=by unfold kz;rw[List.length_mapIdx]
theorem Hu(e:ZJ)(f:Int):kz e [] f=e:=by
 refine List.ext_getElem (kZ e [] f) fun j h1 h2=>?_
 simp only[kz,List.getElem_mapIdx,List.not_mem_nil,cW]
theorem BQ{e:ZJ}{k k':Zf}{f:Int}(h:∀x,x∈k↔x∈k'):kz e k f=kz e k' f:=by
 unfold kz
 congr 1
 funext j row
 simp only[h]
theorem Hv{e:ZJ}{k:Zf}{f:Int}{x:Nat}(hx:x<e.length)(hk:(x:Int)∉k):kz (e.set x (e.getD x []++[f])) k f=kz e ((x:Int)::k) f:=by
 refine List.ext_getElem (by rw[kZ,kZ,bU]) fun j h1 h2=>?_
 have hj:j<e.length:=by rw[kZ] at h2;exact h2
 simp only[kz,List.getElem_mapIdx,List.getElem_set,fa]
 by_cases hxj:x=j
 ·subst hxj
  rw[aD hk,aA rfl,aA (Or.inl rfl),qh,qg hx,Option.getD_some]
 ·have hne:¬((j:Int)=(x:Int)):=by omega
  simp only[aD hxj,hne,false_or]
theorem UM(f b c:Int)(d:jf):∀(n:Nat)(a:Zu)(e:ZJ),a.length<n→(a.map (·.1)).Nodup→(∀x∈a.map (·.1),0≤x∧x<(e.length:Int))→(∀x:Nat,(x:Int)∈a.map (·.1)→((e.getD x []).length+1)*8≤aG)→
 oW n (f,b,c,d,e,a)=some (.brk (b,c,d,kz e (a.map (·.1)) f)):=by
 intro n
 induction n with
 |zero=>intro a e h;omega
 |
  succ n ih=>
  intro a e hn hd hr hs
  unfold oW at ih ⊢
  rw[aO]
  generalize aM _ n=rec at ih ⊢
  dsimp only
  cases hA:a with
  |
   nil=>
   rw[aA (show List.isEmpty ([]:Zu)=true from rfl)]
   simp only[List.map_nil,Hu]
  |
   cons y l=>
   rw[←hA,aD (by rw[hA];simp)]
   refine E8 (by rw[hA];simp) fun i hi=>?_
   have p:=oD hi
   have pm:=p.map (·.1)
   have hd':((a[i]::a.eraseIdx i).map (·.1)).Nodup:=pm.nodup_iff.2 hd
   rw[dX,ou] at hd'
   have hmem:a[i].1∈a.map (·.1):=List.mem_map_of_mem (kg hi)
   obtain⟨h0,h1⟩:=hr _ hmem
   obtain⟨x,hx⟩:∃x:Nat,a[i].1=(x:Int):=⟨a[i].1.toNat,by omega⟩
   have hxl:x<e.length:=by omega
   rw[hx] at h0 h1 hd' hmem ⊢
   have hs1:=hs x hmem
   have hsz:(List.length (List.getD e x [])+List.length [f])*8≤aG:=hs1
   simp only[h0,h1,bZ,fb,aA hsz]
   rw[ih]
   ·rw[Hv hxl hd'.1]
    refine congrArg (fun z=>some (cV.brk (b,c,d,z))) (BQ fun z=>?_)
    have:=(pm.mem_iff (a:=z))
    rw[dX,hx] at this
    exact this
   ·have:=p.length_eq
    rw[fc] at this
    omega
   ·exact hd'.2
   ·intro z hz
    rw[bU]
    exact hr z (pm.mem_iff.1 (by rw[dX];exact eH _ hz))
   ·intro z hz
    have hne:x≠z:=fun h=>hd'.1 (h▸hz)
    rw[qh,List.getElem?_set_ne hne,←qh]
    exact hs z (pm.mem_iff.1 (by rw[dX];exact eH _ hz))
structure GG(g:jf)(m:Nat):Prop where
 many:g.1=(m:Int)
 small:m≤1000000
 nodup:∀h,(ks g h).Nodup
 range:∀h x,x∈ks g h→0≤x∧x<(m:Int)
def us(g:jf)(m e:Nat):ZJ:=(List.range m).map fun j:Nat=>((List.range e).filter fun h:Nat=>decide ((j:Int)∈ks g (h:Int))).map fun h:Nat=>(h:Int)
theorem nj(g:jf)(m e:Nat):(us g m e).length=m:=by simp[us]
theorem OP(g:jf)(m e:Nat):kz (us g m e) (ks g (e:Int)) (e:Int)=us g m (e+1):=by
 refine List.ext_getElem (by rw[kZ,nj,nj]) fun j h1 h2=>?_
 simp only[kz,us,List.getElem_mapIdx,List.getElem_map,List.getElem_range,List.range_succ,List.filter_append,r9,vq,List.filter_nil]
 by_cases h:(j:Int)∈ks g (e:Int)
 ·simp[h]
 ·simp[h]
theorem OQ(g:jf)(m:Nat):us g m 0=List.replicate m []:=by
 refine List.ext_getElem (by rw[nj,l0]) fun j h1 h2=>?_
 simp[us]
theorem Sb{g:jf}{m e x:Nat}:((us g m e).getD x []).length≤e:=by
 rw[qh]
 by_cases h:x<(us g m e).length
 ·rw[qg h,Option.getD_some]
  simp only[us,List.getElem_map,iD]
  exact dp (xA _ _) (by simp)
 ·rw[List.getElem?_eq_none (by omega)]
  simp
theorem UN{g:jf}{m:Nat}(hg:GG g m):∀(n e:Nat),m -e<n→e≤m→oX n ((m:Int),(e:Int),g,us g m e)=some (.brk (us g m m)):=by
 intro n
 have hB:=hB
 have hsm:=hg.small
 induction n with
 |zero=>intro e h;omega
 |
  succ n ih=>
  intro e hn he
  unfold oX at ih ⊢
  rw[aO]
  generalize aM _ n=rec at ih ⊢
  dsimp only
  by_cases h:e<m
  ·rw[aA (show decide ((e:Int)<(m:Int))=true by simp only[mT];omega)]
   have key:=UM (e:Int) (m:Int) (e:Int) g ((nd g (e:Int)).length+1) (nd g (e:Int)) (us g m e) (by omega) (hg.nodup _) (fun x hx=>by rw[nj];exact hg.range _ x hx) (fun x _=>by have:=Sb (g:=g) (m:=m) (e:=e) (x:=x);omega)
   unfold nd at key
   rw[key,aJ]
   dsimp only
   rw[show bB ((e:Int)+1)=((e+1:Nat):Int) from bG (by omega),show kz (us g m e) ((bK (bE (.int .i64) (.map (.int .i64) .bool) (e:Int) (bK g.2.1))).map (·.1)) (e:Int)=us g m (e+1) from OP g m e]
   exact ih (e+1) (by omega) (by omega)
  ·have:e=m:=by omega
   subst this
   rw[gY (by omega)]
theorem BR{g:jf}{m:Nat}(hg:GG g m):f22 g=some (us g m m):=by
 have hB:=hB
 have hsm:=hg.small
 unfold f22
 rw[hg.many,fP m,aA (mV _),aA (by omega),fb,←OQ g]
 have:=UN hg (m+1) 0 (by omega) (by omega)
 have h0:oX (m+1) ((m:Int),(0:Int),g,us g m 0)=some (.brk (us g m m)):=this
 rw[h0,aJ]
theorem fU:∀(m:Nat)(l:Zf),l.Nodup→(∀x∈l,0≤x∧x<(m:Int))→l.length≤m:=by
 intro m
 induction m with
 |
  zero=>
  intro l _ h
  cases l with
  |nil=>exact dD _
  |cons x l=>have:=h x (dK ..);omega
 |
  succ m ih=>
  intro l hd h
  by_cases hm:(m:Int)∈l
  ·have h1:=ih (l.erase (m:Int)) (hd.erase _) fun x hx=>by
    have:=(hd.mem_erase_iff).1 hx
    have:=h x this.2
    omega
   have h2:=List.length_erase_of_mem hm
   have h3:=List.length_pos_of_mem hm
   omega
  ·have:=ih l hd fun x hx=>by
    have h1:=h x hx
    have:x≠(m:Int):=fun e=>hm (e▸hx)
    omega
   omega
def xP(g:jf)(out:Zf)(h:Int):Nat:=((ks g h).filter fun x=>decide (x∉out)).length
theorem Gs(g:jf)(h:Int):xP g [] h=(ks g h).length:=by simp[xP]
theorem Sd{g:jf}{m:Nat}(hg:GG g m)(out:Zf)(h:Int):xP g out h≤m:=
 dp (xA _ _) (fU m _ (hg.nodup h) (hg.range h))
theorem D3:∀(l:Zf)(out:Zf)(x:Int),l.Nodup→x∉out→
 (l.filter fun z=>decide (z∉out)).length=(l.filter fun z=>decide (z∉out++[x])).length+(if x∈l then 1 else 0):=by
 intro l
 induction l with
 |nil=>intro out x _ _;rfl
 |
  cons y l ih=>
  intro out x hd hx
  rw[ou] at hd
  have:=ih out x hd.2 hx
  by_cases hyx:y=x
  ·subst hyx
   rw[aD hd.1] at this
   rw[List.filter_cons_of_pos (by simpa using hx),List.filter_cons_of_neg (by simp),aA (dK ..),fc,this]
  ·have hmem:(x∈y::l)=(x∈l):=by simp[Ne.symm hyx]
   simp only[hmem]
   by_cases hyo:y∈out
   ·rw[List.filter_cons_of_neg (by simp[hyo]),List.filter_cons_of_neg (by simp[hyo])]
    exact this
   ·rw[List.filter_cons_of_pos (by simp[hyo]),List.filter_cons_of_pos (by simp[hyo,hyx]),fc,fc,this]
    omega
theorem Gt{g:jf}{m:Nat}(hg:GG g m){out:Zf}{x h:Int}(hx:x∉out):xP g out h=xP g (out++[x]) h+if x∈ks g h then 1 else 0:=
 D3 _ _ _ (hg.nodup h) hx
abbrev Yc(y:YC):ZL:=fun d=>iR y d.1 d.2.1 d.2.2.1 d.2.2.2.1 d.2.2.2.2.1
theorem UP(y:YC)(x:Int)(acc:Zf)(h:(acc.length+1)*8≤aG):iR y x y 0 (y.gs 1) acc=some (true,y,0,y.gs 1,acc++[x]):=by
 unfold iR
 rw[iZ]
 simp only[bZ,fc,qf,dY,aA h,aK,Nat.beq]
structure L3(g:jf)(m a:Nat)(c e:Zf):Prop where
 len:c.length=m
 num:∀h<a,c[h]? =some ((ks g (h:Int)).length:Int)
 oB:e.Nodup
 mem:∀x,x∈e↔∃h:Nat,h<a∧x=(h:Int)∧(ks g (h:Int)).length=0
theorem UQ{g:jf}{m:Nat}(hg:GG g m)(U:ZJ):∀(n a:Nat)(c e:Zf),m -a<n→a≤m→L3 g m a c e→
 ∃c' e',L3 g m m c' e'∧∀(y:YC)(k:Zf),eG y.l (Yc y) n (y.l,g,U,(m:Int),(a:Int),y,0,y.gs 1,k,c,e)=some (.brk (y.l,U,y,0,y.gs 1,k,c',e')):=by
 intro n
 have hB:=hB
 have hsm:=hg.small
 induction n with
 |zero=>intro a c e h;omega
 |
  succ n ih=>
  intro a c e hn ha hL
  have hstep:∀y k,eG y.l (Yc y) (n+1) (y.l,g,U,(m:Int),(a:Int),y,0,y.gs 1,k,c,e)=_:=fun y k=>by unfold eG;rw[aO]
  by_cases h:a<m
  ·have hl:a<c.length:=by rw[hL.len];exact h
   have d1:decide ((a:Int)<(m:Int))=true:=by simp only[mT];omega
   have d2:((a:Int)<(c.length:Int))=True:=by simp only[eq_iff_iff,iff_true];omega
   have e0:(List.length (bK (bE (.int .i64) (.map (.int .i64) .bool) (a:Int) (bK g.2.1))):Int)=((ks g (a:Int)).length:Int):=by simp[ks,nd]
   generalize hc2:c.set a ((ks g (a:Int)).length:Int)=c2
   have hc2l:c2.length=m:=by rw[←hc2,bU,hL.len]
   have ahQ:nth (.int .i64) c2 (a:Int)=((ks g (a:Int)).length:Int):=by
    rw[ew (t:=.int .i64) (show a<c2.length by omega)]
    subst hc2
    exact List.getElem_set_self ..
   have d3:((a:Int)<(c2.length:Int))=True:=by simp only[eq_iff_iff,iff_true];omega
   have hnum:∀z<a+1,c2[z]? =some ((ks g (z:Int)).length:Int):=by
    intro z hz
    subst hc2
    by_cases hza:z=a
    ·subst hza
     rw[List.getElem?_set_self hl]
    ·rw[List.getElem?_set_ne (Ne.symm hza)]
     exact hL.num z (by omega)
   have hw:bB ((a:Int)+1)=((a+1:Nat):Int):=bG (by omega)
   by_cases hz:(ks g (a:Int)).length=0
   ·have hle:e.length≤m:=fU m e hL.oB fun x hx=>by
     obtain⟨h',h1,h2,_⟩:=(hL.mem x).1 hx
     omega
    obtain⟨e2,he2,p⟩:=Gr (a:=(a:Int)) (l:=e) (by omega)
    have hna:(a:Int)∉e:=fun hm=>by
     obtain⟨h',h1,h2,_⟩:=(hL.mem _).1 hm
     omega
    obtain⟨c',e',hL',hf⟩:=ih (a+1) c2 e2 (by omega) (by omega) ⟨hc2l,hnum,p.nodup_iff.2 (List.nodup_cons.2 ⟨hna,hL.oB⟩),fun x=>by
     rw[p.mem_iff,fa,hL.mem]
     constructor
     ·rintro(rfl|⟨h',h1,h2,h3⟩)
      ·exact⟨a,by omega,rfl,hz⟩
      ·exact⟨h',by omega,h2,h3⟩
     ·rintro⟨h',h1,h2,h3⟩
      by_cases hh:h'=a
      ·subst hh;exact Or.inl h2
      ·exact Or.inr ⟨h',by omega,h2,h3⟩⟩
    refine⟨c',e',hL',fun y k=>?_⟩
    rw[hstep]
    have hf:=hf y k
    unfold eG at hf
    have d4:decide (((ks g (a:Int)).length:Int)=(0:Int))=true:=by rw[hz];rfl
    simp only[d1,eB,d2,e0,fb,hc2,d3,ahQ,d4,bZ,he2,aK,hw]
    exact hf
   ·obtain⟨c',e',hL',hf⟩:=ih (a+1) c2 e (by omega) (by omega) ⟨hc2l,hnum,hL.oB,fun x=>by
     rw[hL.mem]
     constructor
     ·rintro⟨h',h1,h2,h3⟩
      exact⟨h',by omega,h2,h3⟩
     ·rintro⟨h',h1,h2,h3⟩
      by_cases hh:h'=a
      ·subst hh;exact absurd h3 hz
      ·exact⟨h',by omega,h2,h3⟩⟩
    refine⟨c',e',hL',fun y k=>?_⟩
    rw[hstep]
    have hf:=hf y k
    unfold eG at hf
    have d4:decide (((ks g (a:Int)).length:Int)=(0:Int))=false:=dZ (by omega)
    simp only[d1,eB,d2,e0,fb,hc2,d3,ahQ,d4,bZ,dL,cW,hw]
    exact hf
  ·have:a=m:=by omega
   subst this
   refine⟨c,e,hL,fun y k=>?_⟩
   rw[hstep]
   have d1:decide ((a:Int)<(a:Int))=false:=dZ (by omega)
   simp only[d1,dL,cW]
structure L13(m:Nat)(row:Zf)(op0:Nat→Nat)(q0:Zf)(a:Nat)(d e:Zf):Prop where
 len:d.length=m
 num:∀h<m,d[h]? =some ((op0 h:Int) -if(h:Int)∈row.take a then 1 else 0)
 oB:e.Nodup
 mem:∀x,x∈e↔x∈q0∨∃h:Nat,x=(h:Int)∧(h:Int)∈row.take a∧op0 h=1
theorem Se{g:jf}{m:Nat}(hg:GG g m)(U:ZJ)(row:Zf)(op0:Nat→Nat)(q0:Zf)
 (hrd:row.Nodup) (hrr:∀x∈row,∃h:Nat,h<m∧x=(h:Int)∧1≤op0 h∧x∉q0) (hop:∀h,op0 h≤m) (hq:∀x∈q0,0≤x∧x<(m:Int)):
 ∀(n a:Nat)(d e:Zf),row.length -a<n→a≤row.length→L13 m row op0 q0 a d e→
 ∃d' e',L13 m row op0 q0 row.length d' e'∧∀(y:YC)(k:Zf),dN y.l (Yc y) n (y.l,U,row,(row.length:Int),(a:Int),y,0,y.gs 1,d,k,e)=some (.brk (y.l,U,y,0,y.gs 1,d',k,e')):=by
 intro n
 have hB:=hB
 have hsm:=hg.small
 have hrl:row.length≤m:=fU m row hrd fun x hx=>by obtain⟨h,h1,h2,_⟩:=hrr x hx;omega
 induction n with
 |zero=>intro a d e h;omega
 |
  succ n ih=>
  intro a d e hn ha hL
  have hstep:∀y k,dN y.l (Yc y) (n+1) (y.l,U,row,(row.length:Int),(a:Int),y,0,y.gs 1,d,k,e)=_:=fun y k=>by unfold dN;rw[aO]
  by_cases h:a<row.length
  ·have d2:((a:Int)<(row.length:Int))=True:=by simp only[eq_iff_iff,iff_true];omega
   obtain⟨u,hu,hru,hu1,huq⟩:=hrr row[a] (kg h)
   have hn1:nth (.int .i64) row (a:Int)=(u:Int):=by rw[ew (t:=.int .i64) h,hru]
   have hul:u<d.length:=by rw[hL.len];exact hu
   have hnt:(u:Int)∉row.take a:=fun hm=>by
    have h1:=kT a row
    rw[←h1,List.nodup_append] at hrd
    have h2:(u:Int)∈row.drop a:=by rw[kU h,hru];exact dK ..
    exact hrd.2.2 _ hm _ h2 rfl
   have hdu:nth (.int .i64) d (u:Int)=(op0 u:Int):=by
    rw[ew (t:=.int .i64) hul]
    have:=hL.num u hu
    rw[qg hul,aD hnt,Int.sub_zero] at this
    exact ja this
   have hw1:bB ((op0 u:Int) -1)=(op0 u:Int) -1:=ib (by omega) (by have:=hop u;omega)
   have d3:((u:Int)<(d.length:Int))=True:=by simp only[eq_iff_iff,iff_true];omega
   generalize hc2:d.set u ((op0 u:Int) -1)=d2'
   have hc2l:d2'.length=m:=by rw[←hc2,bU,hL.len]
   have d4:((u:Int)<(d2'.length:Int))=True:=by simp only[eq_iff_iff,iff_true];omega
   have ahQ:nth (.int .i64) d2' (u:Int)=(op0 u:Int) -1:=by
    rw[ew (t:=.int .i64) (show u<d2'.length by omega)]
    subst hc2
    exact List.getElem_set_self ..
   have htk:∀z:Int,z∈row.take (a+1)↔z∈row.take a∨z=(u:Int):=fun z=>by
    rw[List.take_succ_eq_append_getElem h,i7,jP,hru]
   have hnum:∀z<m,d2'[z]? =some ((op0 z:Int) -if(z:Int)∈row.take (a+1) then 1 else 0):=by
    intro z hz
    subst hc2
    by_cases hzu:z=u
    ·subst hzu
     rw[List.getElem?_set_self hul,aA ((htk _).2 (Or.inr rfl))]
    ·rw[List.getElem?_set_ne (Ne.symm hzu),hL.num z hz]
     have:((z:Int)∈row.take (a+1))=((z:Int)∈row.take a):=by
      rw[eq_iff_iff,htk]
      exact⟨fun h=>h.resolve_right (by omega),Or.inl⟩
     simp only[this]
   have hw:bB ((a:Int)+1)=((a+1:Nat):Int):=bG (by omega)
   by_cases hz:op0 u=1
   ·have hna:(u:Int)∉e:=fun hm=>by
     rcases(hL.mem _).1 hm with h1|⟨h',h1,h2,_⟩
     ·exact huq (hru▸h1)
     ·have:h'=u:=by omega
      subst this;exact hnt h2
    have hle:e.length≤m:=fU m e hL.oB fun x hx=>by
     rcases(hL.mem x).1 hx with h1|⟨h',h1,h2,_⟩
     ·exact hq x h1
     ·obtain⟨h'',h3,h4,_⟩:=hrr _ (List.mem_of_mem_take h2)
      omega
    obtain⟨e2,he2,p⟩:=Gr (a:=(u:Int)) (l:=e) (by omega)
    obtain⟨d',e',hL',hf⟩:=ih (a+1) d2' e2 (by omega) (by omega) ⟨hc2l,hnum,p.nodup_iff.2 (List.nodup_cons.2 ⟨hna,hL.oB⟩),fun x=>by
     rw[p.mem_iff,fa,hL.mem]
     constructor
     ·rintro(rfl|h1|⟨h',h1,h2,h3⟩)
      ·exact Or.inr ⟨u,rfl,(htk _).2 (Or.inr rfl),hz⟩
      ·exact Or.inl h1
      ·exact Or.inr ⟨h',h1,(htk _).2 (Or.inl h2),h3⟩
     ·rintro(h1|⟨h',h1,h2,h3⟩)
      ·exact Or.inr (Or.inl h1)
      ·rcases(htk _).1 h2 with h2|h2
       ·exact Or.inr (Or.inr ⟨h',h1,h2,h3⟩)
       ·exact Or.inl (h1.trans h2)⟩
    refine⟨d',e',hL',fun y k=>?_⟩
    rw[hstep]
    have hf:=hf y k
    unfold dN at hf
    have d5:decide ((op0 u:Int) -1=(0:Int))=true:=cU (by omega)
    simp only[eB,d2,hn1,hdu,hw1,d3,fb,hc2,d4,ahQ,d5,bZ,he2,aK,hw]
    exact hf
   ·obtain⟨d',e',hL',hf⟩:=ih (a+1) d2' e (by omega) (by omega) ⟨hc2l,hnum,hL.oB,fun x=>by
     rw[hL.mem]
     constructor
     ·rintro(h1|⟨h',h1,h2,h3⟩)
      ·exact Or.inl h1
      ·exact Or.inr ⟨h',h1,(htk _).2 (Or.inl h2),h3⟩
     ·rintro(h1|⟨h',h1,h2,h3⟩)
      ·exact Or.inl h1
      ·rcases(htk _).1 h2 with h2|h2
       ·exact Or.inr ⟨h',h1,h2,h3⟩
       ·have:h'=u:=by omega
        subst this;exact absurd h3 hz⟩
    refine⟨d',e',hL',fun y k=>?_⟩
    rw[hstep]
    have hf:=hf y k
    unfold dN at hf
    have d5:decide ((op0 u:Int) -1=(0:Int))=false:=dZ (by omega)
    simp only[eB,d2,hn1,hdu,hw1,d3,fb,hc2,d4,ahQ,d5,bZ,dL,cW,hw]
    exact hf
  ·have:a=row.length:=by omega
   subst this
   refine⟨d,e,hL,fun y k=>?_⟩
   rw[hstep]
   have d1:decide ((row.length:Int)<(row.length:Int))=false:=dZ (by omega)
   simp only[d1,dL,cW]
structure KI(g:jf)(m:Nat)(q out op:Zf):Prop where
 len:op.length=m
 num:∀h<m,op[h]? =some (xP g out (h:Int):Int)
 oB:(q++out).Nodup
 w6:∀x∈q++out,0≤x∧x<(m:Int)
 zero:∀h:Nat,h<m→((h:Int)∈q++out↔xP g out (h:Int)=0)
 pre:∀i(hi:i<out.length),∀x∈ks g out[i],x∈out.take i
structure KO(g:jf)(m:Nat)(out:Zf):Prop where
 oB:out.Nodup
 w6:∀x∈out,0≤x∧x<(m:Int)
 pre:∀i(hi:i<out.length),∀x∈ks g out[i],x∈out.take i
theorem Sf{g:jf}{m x:Nat}(hx:x<m):nth (.slice 8 (.int .i64)) (us g m m) (x:Int)=((List.range m).filter fun h:Nat=>decide ((x:Int)∈ks g (h:Int))).map fun h:Nat=>(h:Int):=by
 rw[ew (t:=.slice 8 (.int .i64)) (show x<(us g m m).length by rw[nj];exact hx)]
 simp only[us,List.getElem_map,List.getElem_range]
theorem US{g:jf}{m:Nat}(hg:GG g m):∀(n:Nat)(q out op:Zf),m -out.length<n→KI g m q out op→
 ∃out',KO g m out'∧∀y:YC,dR y.l (Yc y) n (y.l,us g m m,y,0,y.gs 1,op,q,out)=some (.brk (y,0,y.gs 1,out')):=by
 intro n
 have hB:=hB
 have hsm:=hg.small
 induction n with
 |zero=>intro q out op h;omega
 |
  succ n ih=>
  intro q out op hn hK
  have hstep:∀y,dR y.l (Yc y) (n+1) (y.l,us g m m,y,0,y.gs 1,op,q,out)=_:=fun y=>by unfold dR;rw[aO]
  have hqn:q.Nodup:=(List.nodup_append.1 hK.oB).1
  have hon:out.Nodup:=(List.nodup_append.1 hK.oB).2.1
  have hdis:=(List.nodup_append.1 hK.oB).2.2
  have hor:∀x∈out,0≤x∧x<(m:Int):=fun x hx=>hK.w6 x (rZ _ hx)
  by_cases hq:q= []
  ·subst hq
   refine⟨out,⟨hon,hor,hK.pre⟩,fun y=>?_⟩
   rw[hstep]
   have e1:f123 []=some (0:Int):=rfl
   simp only[e1,aK,show decide ((0:Int)<0)=false from rfl,dL,cW]
  ·have hql:q.length≤m:=fU m q hqn fun x hx=>hK.w6 x (kf _ hx)
   obtain⟨x0,q1,hpop,p⟩:=Sa hq (by omega)
   have hxq:x0∈q:=p.mem_iff.1 (dK ..)
   obtain⟨x,hx,rfl⟩:∃x:Nat,x<m∧x0=(x:Int):=by
    have:=hK.w6 x0 (kf _ hxq)
    exact⟨x0.toNat,by omega,by omega⟩
   have hpn:=List.nodup_cons.1 (p.nodup_iff.2 hqn)
   have hxo:(x:Int)∉out:=fun h=>hdis _ hxq _ h rfl
   have hx0:xP g out (x:Int)=0:=(hK.zero x hx).1 (kf _ hxq)
   have hol:(out++[(x:Int)]).length≤m:=fU m _ (by
    rw[List.nodup_append]
    refine⟨hon,by simp,fun a ha b hb=>?_⟩
    rw[jP] at hb
    subst hb
    exact fun e=>hxo (e▸ha)) fun z hz=>by
    rcases List.mem_append.1 hz with h|h
    ·exact hor z h
    ·rw[jP] at h;omega
   rw[eI,cY] at hol
   generalize hrow:(((List.range m).filter fun h:Nat=>decide ((x:Int)∈ks g (h:Int))).map fun h:Nat=>(h:Int))=row
   have hrm:∀h:Nat,(h:Int)∈row↔h<m∧(x:Int)∈ks g (h:Int):=fun h=>by
    rw[←hrow,List.mem_map]
    constructor
    ·rintro⟨h',h1,h2⟩
     have:h'=h:=by omega
     subst this
     have:=List.mem_filter.1 h1
     exact⟨List.mem_range.1 this.1,ki this.2⟩
    ·rintro⟨h1,h2⟩
     exact⟨h,List.mem_filter.2 ⟨List.mem_range.2 h1,cU h2⟩,rfl⟩
   have hrn:row.Nodup:=by
    rw[←hrow]
    refine List.Pairwise.map _ (fun a b hab=>?_) (List.nodup_range.filter _)
    exact fun e=>hab (by omega)
   have hc1:∀h:Nat,(x:Int)∈ks g (h:Int)→1≤xP g out (h:Int):=fun h hm=>by
    rw[Gt hg hxo,aA hm];omega
   have hrr:∀z∈row,∃h:Nat,h<m∧z=(h:Int)∧1≤xP g out (h:Int)∧z∉q1:=fun z hz=>by
    obtain⟨h,h1,h2⟩:=List.mem_map.1 (hrow▸hz)
    subst h2
    have h3:=(hrm h).1 hz
    refine⟨h,h3.1,rfl,hc1 h h3.2,fun hm=>?_⟩
    have:=(hK.zero h h3.1).1 (kf _ (p.mem_iff.1 (eH _ hm)))
    have:=hc1 h h3.2
    omega
   obtain⟨d',e',hL,hf⟩:=Se hg (us g m m) row (fun h=>xP g out (h:Int)) q1 hrn hrr (fun h=>Sd hg _ _) (fun z hz=>hK.w6 z (kf _ (p.mem_iff.1 (eH _ hz))))
    (row.length+1) 0 op q1 (by omega) (by omega) ⟨hK.len,fun h hh=>by rw[hK.num h hh];simp,hpn.2,fun z=>by simp⟩
   have hK':KI g m e' (out++[(x:Int)]) d':=by
    have hcnt:∀h:Nat,xP g out (h:Int)=xP g (out++[(x:Int)]) (h:Int)+if(x:Int)∈ks g (h:Int) then 1 else 0:=fun h=>Gt hg hxo
    have hmem:∀z,z∈e'↔z∈q1∨∃h:Nat,z=(h:Int)∧(h:Int)∈row∧xP g out (h:Int)=1:=fun z=>by
     have:=hL.mem z
     rw[List.take_length] at this
     exact this
    have hq1:∀z,z∈q1→z∈q∧z≠(x:Int):=fun z hz=>⟨p.mem_iff.1 (eH _ hz),fun e=>hpn.1 (e▸hz)⟩
    refine⟨hL.len,fun h hh=>?_,?_,fun z hz=>?_,fun h hh=>?_,fun i hi z hz=>?_⟩
    ·have:=hL.num h hh
     rw[List.take_length] at this
     rw[this]
     have h1:=hcnt h
     by_cases hxk:(x:Int)∈ks g (h:Int)
     ·rw[aA hxk] at h1
      rw[aA ((hrm h).2 ⟨hh,hxk⟩)]
      exact congrArg some (by omega)
     ·rw[aD hxk] at h1
      rw[aD (fun hm=>hxk ((hrm h).1 hm).2)]
      exact congrArg some (by omega)
    ·rw[List.nodup_append]
     refine⟨hL.oB,?_,fun a ha b hb=>?_⟩
     ·rw[List.nodup_append]
      refine⟨hon,by simp,fun a ha b hb=>?_⟩
      rw[jP] at hb
      subst hb
      exact fun e=>hxo (e▸ha)
     ·rintro rfl
      rcases(hmem a).1 ha with h1|⟨h,h1,h2,h3⟩
      ·rcases List.mem_append.1 hb with h4|h4
       ·exact hdis _ (hq1 a h1).1 _ h4 rfl
       ·exact(hq1 a h1).2 (List.mem_singleton.1 h4)
      ·subst h1
       have h4:(h:Int)∈q++out:=by
        rcases List.mem_append.1 hb with h5|h5
        ·exact rZ _ h5
        ·rw[List.mem_singleton.1 h5];exact kf _ hxq
       have:=(hK.zero h ((hrm h).1 h2).1).1 h4
       omega
    ·rcases List.mem_append.1 hz with h1|h1
     ·rcases(hmem z).1 h1 with h2|⟨h,h2,h3,_⟩
      ·exact hK.w6 z (kf _ (hq1 z h2).1)
      ·have:=((hrm h).1 h3).1;omega
     ·rcases List.mem_append.1 h1 with h2|h2
      ·exact hor z h2
      ·rw[jP] at h2;omega
    ·have h1:=hcnt h
     have h2:=hK.zero h hh
     rw[i7,i7,jP,hmem]
     constructor
     ·rintro((h3|⟨h',h3,h4,h5⟩)|h3|h3)
      ·have:=h2.1 (kf _ (hq1 _ h3).1);omega
      ·have:h'=h:=by omega
       subst this
       rw[aA ((hrm _).1 h4).2] at h1;omega
      ·have:=h2.1 (rZ _ h3);omega
      ·have:=h2.1 (kf _ (h3▸hxq));omega
     ·intro h3
      by_cases hz0:xP g out (h:Int)=0
      ·rcases List.mem_append.1 (h2.2 hz0) with h4|h4
       ·rcases List.mem_cons.1 (p.mem_iff.2 h4) with h5|h5
        ·exact Or.inr (Or.inr h5)
        ·exact Or.inl (Or.inl h5)
       ·exact Or.inr (Or.inl h4)
      ·by_cases hxk:(x:Int)∈ks g (h:Int)
       ·rw[aA hxk] at h1
        exact Or.inl (Or.inr ⟨h,rfl,(hrm h).2 ⟨hh,hxk⟩,by omega⟩)
       ·rw[aD hxk] at h1;omega
    ·by_cases hio:i<out.length
     ·rw[List.getElem_append_left hio] at hz
      rw[List.take_append_of_le_length (by omega)]
      exact hK.pre i hio z hz
     ·have hi':i=out.length:=by rw[eI,cY] at hi;omega
      subst hi'
      rw[List.getElem_append_right (dD _)] at hz
      simp only[Nat.sub_self,List.getElem_singleton] at hz
      rw[List.take_append_of_le_length (dD _),List.take_length]
      by_cases hzo:z∈out
      ·exact hzo
      ·have:z∈(ks g (x:Int)).filter fun w=>decide (w∉out):=List.mem_filter.2 ⟨hz,cU hzo⟩
       have h9:((ks g (x:Int)).filter fun w=>decide (w∉out))= []:=List.length_eq_zero_iff.1 hx0
       rw[h9] at this
       exact absurd this List.not_mem_nil
   obtain⟨out',hO,hr⟩:=ih e' (out++[(x:Int)]) d' (by rw[eI,cY];omega) hK'
   refine⟨out',hO,fun y=>?_⟩
   rw[hstep]
   have hr:=hr y
   have hf:=hf y (out++[(x:Int)])
   unfold dR at hr
   have e1:f123 q=some (q.length:Int):=rfl
   have d1:decide ((0:Int)<(q.length:Int))=true:=cU (by have:=List.length_pos_iff.2 hq;omega)
   have e2:Yc y ((x:Int),y,0,y.gs 1,out,())=some (true,y,0,y.gs 1,out++[(x:Int)]):=UP y (x:Int) out (by omega)
   have d2:((x:Int)<((us g m m).length:Int))=True:=by rw[nj];simp only[eq_iff_iff,iff_true];omega
   simp only[e1,aK,d1,bZ,hpop,e2,Bool.not_true,dL,cW,aJ,eB,d2,Sf hx,hrow,fb]
   have hf':dN y.l (Yc y) (row.length+1) (y.l,us g m m,row,(row.length:Int),(0:Int),y,0,y.gs 1,op,out++[(x:Int)],q1)=some (.brk (y.l,us g m m,y,0,y.gs 1,d',out++[(x:Int)],e')):=hf
   rw[hf',aJ]
   exact hr
theorem UT{g:jf}{m:Nat}(hg:GG g m):∃out,KO g m out∧∀y:YC,iv y.l (Yc y) y.l g y 0 (y.gs 1) []=some (y,0,y.gs 1,out):=by
 have hB:=hB
 have hsm:=hg.small
 obtain⟨c',e',hL,h3⟩:=UQ hg (us g m m) (m+1) 0 (List.replicate m (0:Int)) [] (by omega) (by omega) ⟨l0 ..,fun h hh=>by omega,List.nodup_nil,fun x=>by simp⟩
 obtain⟨out,hO,h9⟩:=US hg gn e' [] c' (CE (by simp;omega)) ⟨hL.len,fun h hh=>by rw[hL.num h hh,Gs],by rw[ik];exact hL.oB,fun x hx=>by
  rw[ik] at hx
  obtain⟨h,h1,h2,_⟩:=(hL.mem x).1 hx
  omega,fun h hh=>by
  rw[ik,hL.mem,Gs]
  constructor
  ·rintro⟨h',h1,h2,h3⟩
   have:h'=h:=by omega
   subst this;exact h3
  ·intro h1;exact⟨h,hh,rfl,h1⟩,fun i hi=>by simp at hi⟩
 refine⟨out,hO,fun y=>?_⟩
 have h3:=h3 y []
 have h3':eG y.l (Yc y) (m+1) (y.l,g,us g m m,(m:Int),(0:Int),y,0,y.gs 1,[],List.replicate m (0:Int),[])=some (.brk (y.l,us g m m,y,0,y.gs 1,[],c',e')):=h3
 unfold iv
 rw[BR hg,aK,hg.many,fP m,aA (mV _),aA (by omega),fb]
 erw[h3']
 rw[aJ]
 dsimp only
 rw[h9 y,aJ]
theorem D4{g:jf}{m:Nat}(hg:GG g m):∃out,KO g m out∧lP g=some out:=by
 obtain⟨out,hO,h⟩:=UT hg
 refine⟨out,hO,?_⟩
 unfold lP zO
 rw[tc (r:=.brk out)]
 ·rfl
 ·intro y
  erw[h y]
  simp only[aK,iZ,bZ]
abbrev NM:=ZO
def kk(M:NM)(h:Int):Zf:=(bK (bE (.int .i64) (.map (.int .i64) .bool) h M)).map (·.1)
theorem dS{α:Type}{k z:Int}{v:α}{es:List (Int×α)}:z∈(bF (.int .i64) k v es).map (·.1)↔z=k∨z∈es.map (·.1):=by
 have h1:=eR (kt:=.int .i64) rfl (k:=z) (es:=bF (.int .i64) k v es)
 have h2:=eR (kt:=.int .i64) rfl (k:=z) (es:=es)
 by_cases h:z=k
 ·subst h
  exact⟨fun _=>Or.inl rfl,fun _=>h1.1 (mF (kt:=.int .i64) rfl _ _ _)⟩
 ·rw[pJ (kt:=.int .i64) rfl h] at h1
  exact⟨fun hz=>Or.inr (h2.1 (h1.2 hz)),fun hz=>h1.1 (h2.2 (hz.resolve_left h))⟩
theorem qD{M:NM}{h:Int}{L:Zu}:kk (bF (.int .i64) h (some L) M) h=L.map (·.1):=by
 unfold kk
 rw[fO (kt:=.int .i64) (vt:=.map (.int .i64) .bool) rfl]
 rfl
theorem qE{M:NM}{h z:Int}{L:Ze}(hz:z≠h):kk (bF (.int .i64) h L M) z=kk M z:=by
 unfold kk
 rw[fg (kt:=.int .i64) (vt:=.map (.int .i64) .bool) rfl hz]
structure RG(m:Nat)(M:NM):Prop where
 oB:∀h,(kk M h).Nodup
 w6:∀h x,x∈kk M h→0≤x∧x<(m:Int)
 Sg:(M.map (·.1)).Nodup
 OR:∀x∈M.map (·.1),0≤x∧x<(m:Int)
theorem sD(m x:Int)(M:NM):vo m x M=some (decide (0≤x∧x<m),M):=by
 unfold vo
 by_cases h:0≤x
 ·rw[db h,aK]
  simp[h]
 ·rw[aD (by simp[h]),aK]
  simp[h]
theorem RG.put{m:Nat}{M:NM}(hM:RG m M){h x:Int}(hh:h∈M.map (·.1))(hx:0≤x∧x<(m:Int)):
 RG m (bF (.int .i64) h (some (bF (.int .i64) x true (bK (bE (.int .i64) (.map (.int .i64) .bool) h M)))) M):=by
 refine⟨fun z=>?_,fun z y hy=>?_,dP (kt:=.int .i64) rfl hM.Sg,fun z hz=>?_⟩
 ·by_cases hz:z=h
  ·subst hz
   rw[qD]
   exact dP (kt:=.int .i64) rfl (hM.oB z)
  ·rw[qE hz];exact hM.oB z
 ·by_cases hz:z=h
  ·subst hz
   rw[qD,dS] at hy
   rcases hy with rfl|hy
   ·exact hx
   ·exact hM.w6 z y hy
  ·rw[qE hz] at hy;exact hM.w6 z y hy
 ·rw[dS] at hz
  rcases hz with rfl|hz
  ·exact hM.OR _ hh
  ·exact hM.OR z hz
theorem Kq{M:NM}{h x z y:Int}:y∈kk (bF (.int .i64) h (some (bF (.int .i64) x true (bK (bE (.int .i64) (.map (.int .i64) .bool) h M)))) M) z↔(z=h∧y=x)∨y∈kk M z:=by
 by_cases hz:z=h
 ·subst hz
  rw[qD,dS]
  exact⟨fun hy=>hy.imp (fun e=>⟨rfl,e⟩) id,fun hy=>hy.imp (·.2) id⟩
 ·rw[qE hz]
  exact⟨Or.inr,fun hy=>hy.resolve_left fun e=>hz e.1⟩
abbrev Kr:Int×jf:=((140:Int),((0:Int),((none:Option NM),())))
theorem Si{m:Nat}(hsm:m≤1000000)(i:Zi)(j k:Int)(fr:Zw)(h:iA)(hfr:fr.length≤aG):∀(n c:Nat)(M:NM),fr.length -c<n→c≤fr.length→RG m M→h.2.1∈M.map (·.1)→(∀z(hz:z<fr.length),z<c→fr[z].2.2.1∈kk M h.2.1)→
 (∃M',nL n (i,j,k,fr,(fr.length:Int),(c:Int),(m:Int),h,M)=some (.brk (i,j,k,(m:Int),M'))∧RG m M'∧(∀z y,y∈kk M z→y∈kk M' z)∧∀f∈fr,f.2.2.1∈kk M' h.2.1)∨
  nL n (i,j,k,fr,(fr.length:Int),(c:Int),(m:Int),h,M)=some (.ret (.ret Kr)):=by
 intro n
 have hB:=hB
 induction n with
 |zero=>intro c M h;omega
 |
  succ n ih=>
  intro c M hn hc hM hh hd
  unfold nL at ih ⊢
  rw[aO]
  generalize aM _ n=rec at ih ⊢
  dsimp only
  by_cases hcl:c<fr.length
  ·rw[db (by omega),fP c,aA (show(c:Int)<(fr.length:Int) by omega),ew (t:=aL) hcl,sD,aK]
   dsimp only
   by_cases hx:0≤fr[c].2.2.1∧fr[c].2.2.1<(m:Int)
   ·rw[aD (by simp[hx]),aA (eR (kt:=.int .i64) rfl |>.2 hh),aA (iL (kt:=.int .i64) rfl _)]
    have hlen:(bK (bE (.int .i64) (.map (.int .i64) .bool) h.2.1 M)).length≤m:=by
     have:=fU m (kk M h.2.1) (hM.oB _) (hM.w6 _)
     unfold kk at this
     rw[iD] at this
     exact this
    rw[aA (by omega),bG (by omega)]
    rcases ih (c+1) _ (by omega) (by omega) (hM.put hh hx) (by rw[dS];exact Or.inl rfl) (fun z hz hzc=>by
     rw[Kq]
     by_cases e:z=c
     ·subst e;exact Or.inl ⟨rfl,rfl⟩
     ·exact Or.inr (hd z hz (by omega))) with⟨M',e,h1,h2,h3⟩|e
    ·exact Or.inl ⟨M',e,h1,fun z y hy=>h2 z y (Kq.2 (Or.inr hy)),h3⟩
    ·exact Or.inr e
   ·rw[aA (by simp[hx])]
    exact Or.inr rfl
  ·rw[gY (by omega)]
   refine Or.inl ⟨M,rfl,hM,fun _ _ h=>h,fun f hf=>?_⟩
   obtain⟨z,hz,rfl⟩:=kV hf
   exact hd z hz (by omega)
theorem UU{m:Nat}(hsm:m≤1000000)(rs:Zi)(hrs:rs.length≤aG)(hfr:∀r∈rs,r.2.2.1.length≤aG):∀(n c:Nat)(M:NM),rs.length -c<n→c≤rs.length→RG m M→(∀z(hz:z<rs.length),z<c→∀f∈rs[z].2.2.1,f.2.2.1∈kk M rs[z].2.1)→
 (∃M',ri n (rs,(rs.length:Int),(c:Int),(m:Int),M)=some (.brk ((m:Int),M'))∧RG m M'∧∀r∈rs,∀f∈r.2.2.1,f.2.2.1∈kk M' r.2.1)∨
  ri n (rs,(rs.length:Int),(c:Int),(m:Int),M)=some (.ret Kr):=by
 intro n
 have hB:=hB
 induction n with
 |zero=>intro c M h;omega
 |
  succ n ih=>
  intro c M hn hc hM hd
  unfold ri at ih ⊢
  rw[aO]
  generalize aM _ n=rec at ih ⊢
  dsimp only
  by_cases hcl:c<rs.length
  ·rw[db (by omega),fP c,aA (show(c:Int)<(rs.length:Int) by omega),ew (t:=bQ) hcl,sD,aK]
   dsimp only
   by_cases hx:0≤rs[c].2.1∧rs[c].2.1<(m:Int)
   ·rw[aD (by simp[hx])]
    have hput:∃M1,RG m M1∧rs[c].2.1∈M1.map (·.1)∧(∀z y,y∈kk M z→y∈kk M1 z)∧
     (if(!(de (.int .i64) rs[c].2.1 M))=true then(if de (.int .i64) rs[c].2.1 M=false then(if aY (.int .i64) rs[c].2.1 rs[c].2.1=true then(if List.length M+1≤aG then(some (cV.brk (rs,(rs.length:Int),(c:Int),(m:Int),rs[c],bF (.int .i64) rs[c].2.1 (some ([]:Zu)) (bF (.int .i64) rs[c].2.1 (Ty.aC (.map (.int .i64) .bool)) M)))) else none) else none) else none) else(some (.brk (rs,(rs.length:Int),(c:Int),(m:Int),rs[c],M))):Option (cV (List iA×Int×Int×Int×iA×NM) (cV (List iA×Int×Int×Int×NM) (cV (Int×NM) (Int×jf)))))=some (.brk (rs,(rs.length:Int),(c:Int),(m:Int),rs[c],M1)):=by
     cases hm:de (.int .i64) rs[c].2.1 M with
     |true=>exact⟨M,hM,eR (kt:=.int .i64) rfl |>.1 hm,fun _ _ h=>h,by rw[aD (by simp)]⟩
     |
      false=>
      have hno:rs[c].2.1∉M.map (·.1):=fun h=>by
       have:=eR (kt:=.int .i64) rfl |>.2 h
       rw[hm] at this;cases this
      have hk0:kk M rs[c].2.1= []:=by
       unfold kk
       rw[yT (kt:=.int .i64) hm]
       rfl
      have hlen:M.length≤m:=by
       have:=fU m (M.map (·.1)) hM.Sg hM.OR
       rw[iD] at this
       exact this
      refine⟨_,⟨fun z=>?_,fun z y hy=>?_,dP (kt:=.int .i64) rfl (dP (kt:=.int .i64) rfl hM.Sg),fun z hz=>?_⟩,dS.2 (Or.inl rfl),fun z y hy=>?_,by rw[aA (by simp),aA rfl,aA (iL (kt:=.int .i64) rfl _),aA (by omega)]⟩
      ·by_cases hz:z=rs[c].2.1
       ·subst hz;rw[qD];exact List.nodup_nil
       ·rw[qE hz,qE hz];exact hM.oB z
      ·by_cases hz:z=rs[c].2.1
       ·subst hz;rw[qD] at hy;cases hy
       ·rw[qE hz,qE hz] at hy;exact hM.w6 z y hy
      ·rw[dS,dS] at hz
       rcases hz with rfl|rfl|hz
       ·exact hx
       ·exact hx
       ·exact hM.OR z hz
      ·by_cases hz:z=rs[c].2.1
       ·subst hz;rw[hk0] at hy;cases hy
       ·rw[qE hz,qE hz];exact hy
    obtain⟨M1,hM1,hh1,hk1,e1⟩:=hput
    rw[e1,aJ]
    dsimp only
    rcases Si hsm rs (rs.length:Int) (c:Int) rs[c].2.2.1 rs[c] (hfr _ (kg hcl)) (rs[c].2.2.1.length+1) 0 M1 (by omega) (by omega) hM1 hh1 (fun z hz h=>by omega) with⟨M',e,h1,h2,h3⟩|e
    ·have e':nL (Int.toNat (List.length rs[c].2.2.1:Int)+1) (rs,(rs.length:Int),(c:Int),rs[c].2.2.1,(List.length rs[c].2.2.1:Int),(0:Int),(m:Int),rs[c],M1)=some (.brk (rs,(rs.length:Int),(c:Int),(m:Int),M')):=e
     rw[e',aJ]
     dsimp only
     rw[bG (by omega)]
     exact ih (c+1) M' (by omega) (by omega) h1 fun z hz hzc f hf=>by
      by_cases ec:z=c
      ·subst ec;exact h3 f hf
      ·exact h2 _ _ (hk1 _ _ (hd z hz (by omega) f hf))
    ·have e':nL (Int.toNat (List.length rs[c].2.2.1:Int)+1) (rs,(rs.length:Int),(c:Int),rs[c].2.2.1,(List.length rs[c].2.2.1:Int),(0:Int),(m:Int),rs[c],M1)=some (.ret (.ret Kr)):=e
     rw[e',fv]
     exact Or.inr rfl
   ·rw[aA (by simp[hx])]
    exact Or.inr rfl
  ·rw[gY (by omega)]
   refine Or.inl ⟨M,rfl,hM,fun r hr=>?_⟩
   obtain⟨z,hz,rfl⟩:=kV hr
   exact hd z hz (by omega)
structure SB(s:cH):Prop where
 dT:s.2.2.1.length≤1000000
 rules:s.2.2.2.1.length≤aG
 UW:∀r∈s.2.2.2.1,r.2.2.1.length≤aG
theorem Gu{s:cH}(hs:SB s):(∃g,f17 s=some ((0:Int),g)∧GG g s.2.2.1.length∧∀r∈s.2.2.2.1,∀f∈r.2.2.1,f.2.2.1∈ks g r.2.1)∨f17 s=some Kr:=by
 have key:=UU hs.dT s.2.2.2.1 hs.rules hs.UW (s.2.2.2.1.length+1) 0 [] (by omega) (by omega) ⟨fun h=>List.nodup_nil,fun h x hx=>(by cases hx),List.nodup_nil,fun x hx=>(by cases hx)⟩ (fun z hz h=>by omega)
 unfold f17
 rcases key with⟨M',e,h1,h2⟩|e
 ·have e':ri (Int.toNat (List.length s.2.2.2.1:Int)+1) (s.2.2.2.1,(List.length s.2.2.2.1:Int),(0:Int),(List.length s.2.2.1:Int),([]:NM))=some (.brk ((s.2.2.1.length:Int),M')):=e
  rw[e',aJ]
  exact Or.inl ⟨_,rfl,⟨rfl,hs.dT,fun h=>h1.oB h,fun h x hx=>h1.w6 h x hx⟩,h2⟩
 ·have e':ri (Int.toNat (List.length s.2.2.2.1:Int)+1) (s.2.2.2.1,(List.length s.2.2.2.1:Int),(0:Int),(List.length s.2.2.1:Int),([]:NM))=some (.ret Kr):=e
  rw[e',fv]
  exact Or.inr rfl
structure rI(s:cH)(l:Zf):Prop where
 oB:l.Nodup
 all:∀x,x∈l↔0≤x∧x<(s.2.2.1.length:Int)
 pre:∀r∈s.2.2.2.1,∀f∈r.2.2.1,l.idxOf f.2.2.1<l.idxOf r.2.1
theorem KO.all{g:jf}{m:Nat}{out:Zf}(h:KO g m out)(hl:m≤out.length)(x:Int):x∈out↔0≤x∧x<(m:Int):=by
 refine⟨h.w6 x,fun hx=>?_⟩
 by_cases hm:x∈out
 ·exact hm
 ·have:=fU m (x::out) (List.nodup_cons.2 ⟨hm,h.oB⟩) fun y hy=>by
   rcases List.mem_cons.1 hy with rfl|hy
   ·exact hx
   ·exact h.w6 y hy
  rw[fc] at this
  omega
theorem BT{s:cH}(hs:SB s):∃l ok e,f35 s=some (l,ok,e)∧(e=0→ok=true→(∀r∈s.2.2.2.1,0≤r.2.1∧r.2.1<(s.2.2.1.length:Int))→rI s l):=by
 unfold f35
 rcases Gu hs with⟨g,e,hg,hn⟩|e
 ·rw[e,aK]
  dsimp only
  rw[aD (by decide)]
  obtain⟨out,hO,ho⟩:=D4 hg
  have ho:=(AX g).trans ho
  have e2:Dk g=some g:=rfl
  rw[e2,aK,ho,aK,hg.many]
  by_cases hl:out.length<s.2.2.1.length
  ·rw[db (by omega)]
   exact⟨_,_,_,rfl,fun _ h=>(by cases h)⟩
  ·rw[gY (by omega)]
   refine⟨_,_,_,rfl,fun _ _ hr=>⟨hO.oB,hO.all (by omega),fun r hrm f hf=>?_⟩⟩
   have hin:r.2.1∈out:=(hO.all (by omega) _).2 (hr r hrm)
   have hi:=List.idxOf_lt_length_of_mem hin
   have h1:=hO.pre _ hi f.2.2.1 (by rw[List.getElem_idxOf];exact hn r hrm f hf)
   obtain⟨j,hj,e3⟩:=kV h1
   rw[mS] at hj
   rw[List.getElem_take] at e3
   rw[←e3,hO.oB.idxOf_getElem]
   omega
 ·rw[e,aK]
  dsimp only
  rw[aA (by decide)]
  exact⟨_,_,_,rfl,fun h=>(by cases h)⟩
theorem fq{A R:Type}{x:Option A}{f:A→Option R}(hx:∃a,x=some a)(hf:∀a,∃r,f a=some r):∃r,Option.bind x f=some r:=by
 obtain⟨a,rfl⟩:=hx
 exact hf a
theorem vY(x y:Zn)(hl:x.length≤aG):∃r,f63 x y=some r:=KQ .str (fun a b=>decide (a=b)) x y fun _=>hl
theorem Hw(l:Zn)(hl:l.length≤aG):∃r,f242 l=some r:=by
 have hB:=hB
 have key:∀(n a:Nat)(d:List (Zd×Bool)),l.length -a<n→a≤l.length→d.length≤a→∃r,aI (U:=Unit) (yY n (l,(l.length:Int),(a:Int),d)) (fun _=>some true)=some r:=by
  intro n
  induction n with
  |zero=>intro a d h;omega
  |
   succ n ih=>
   intro a d hn ha hd
   unfold yY at ih ⊢
   rw[aO]
   generalize aM _ n=rec at ih ⊢
   dsimp only
   by_cases h:a<l.length
   ·rw[db (by omega),fP a,aA (show(a:Int)<(l.length:Int) by omega)]
    split
    ·exact⟨_,rfl⟩
    ·rw[aA (by omega),bG (by omega)]
     exact ih (a+1) _ (by omega) (by omega) (dp (eM (kt:=.str)) (by omega))
   ·rw[gY (by omega)]
    exact⟨_,rfl⟩
 exact key _ 0 [] (by omega) (by omega) (by simp)
theorem Hx(l:Zf)(hl:l.length≤aG):∃r,f109 l=some r∧(r=true→l.Nodup):=by
 have hB:=hB
 have key:∀(n a:Nat)(d:Zu),l.length -a<n→a≤l.length→d.length≤a→(∀x∈l.take a,bE (.int .i64) .bool x d=true)→(l.take a).Nodup→∃r,aI (U:=Unit) (zf n (l,(l.length:Int),(a:Int),d)) (fun _=>some true)=some r∧(r=true→l.Nodup):=by
  intro n
  induction n with
  |zero=>intro a d h;omega
  |
   succ n ih=>
   intro a d hn ha hd h1 h2
   unfold zf at ih ⊢
   rw[aO]
   generalize aM _ n=rec at ih ⊢
   dsimp only
   by_cases h:a<l.length
   ·rw[db (by omega),fP a,aA (show(a:Int)<(l.length:Int) by omega),ew (t:=.int .i64) h]
    by_cases hs:bE (.int .i64) .bool l[a] d=true
    ·rw[aA hs];exact⟨false,rfl,fun h=>(by cases h)⟩
    ·rw[aD hs,aA (by omega),bG (by omega)]
     have ht:l.take (a+1)=l.take a++[l[a]]:=(List.take_append_getElem h).symm
     refine ih (a+1) _ (by omega) (by omega) (dp (eM (kt:=.int .i64)) (by omega)) (fun x hx=>?_) ?_
     ·rw[ht,i7,jP] at hx
      by_cases e:x=l[a]
      ·rw[e];exact fO (kt:=.int .i64) (vt:=.bool) rfl _ _ _
      ·rw[fg (kt:=.int .i64) (vt:=.bool) rfl e];exact h1 x (hx.resolve_right e)
     ·rw[ht,List.nodup_append]
      refine⟨h2,List.nodup_cons.2 ⟨List.not_mem_nil,List.nodup_nil⟩,fun x hx y hy=>?_⟩
      rw[List.mem_singleton.1 hy]
      exact fun e=>hs (h1 _ (e▸hx))
   ·rw[gY (by omega)]
    have e:a=l.length:=by omega
    subst e
    rw[List.take_length] at h2
    exact⟨true,rfl,fun _=>h2⟩
 exact key _ 0 [] (by omega) (by omega) (by simp) (fun x hx=>(by cases hx)) List.nodup_nil
abbrev dJ(t:dF):Zn:=t.2.2.2.2.2.1
theorem xS(t:dF)(n:Int):∃r,f238 t n=some r:=by
 unfold f238
 refine fq ?_ fun v=>⟨v,rfl⟩
 repeat' (first|exact⟨_,rfl⟩|split)
theorem Hy(t:dF)(n:Int):∃r,f239 t n=some r:=by
 unfold f239
 refine fq ?_ fun v=>⟨v,rfl⟩
 repeat' (first|exact⟨_,rfl⟩|split)
theorem Hz(t:dF)(n:Int):∃r,f240 t n=some r:=by
 unfold f240
 refine fq ?_ fun v=>⟨v,rfl⟩
 repeat' (first|exact⟨_,rfl⟩|split)
theorem HA(t:dF)(n:Int)(h:(dJ t).length≤aG):∃r,f241 t n=some r:=by
 unfold f241
 obtain⟨q,hq⟩:=Hw _ h
 refine fq ?_ fun v=>⟨v,rfl⟩
 rw[hq]
 repeat' (first|exact⟨_,rfl⟩|split)
theorem ph(c:dB)(t:dF)(h:(dJ t).length≤aG):∃r,f114 c t=some r:=by
 unfold f114
 by_cases h1:t.1<1
 ·rw[db h1];exact⟨_,rfl⟩
 ·by_cases h2:(4:Int)<t.1
  ·rw[aD (by simpa using h1),cU h2];exact⟨_,rfl⟩
  ·rw[aD (by simpa using h1),dZ h2,aK,aD (by decide),aJ]
   dsimp only
   rw[aA (by omega),aA (by omega),aD (by omega)]
   by_cases e1:t.1=1
   ·rw[aA e1];exact fq (xS _ _) fun v=>⟨v,rfl⟩
   ·rw[aD e1]
    by_cases e2:t.1=2
    ·rw[aA e2];exact fq (Hy _ _) fun v=>⟨v,rfl⟩
    ·rw[aD e2]
     by_cases e3:t.1=3
     ·rw[aA e3];exact fq (Hz _ _) fun v=>⟨v,rfl⟩
     ·rw[aD e3,aA (by omega)];exact fq (HA _ _ h) fun v=>⟨v,rfl⟩
theorem pj(c:dB)(u:gv):∃r,f52 c u=some r:=by
 unfold f52
 refine fq ?_ fun v=>⟨v,rfl⟩
 by_cases h1:0≤u.2.2.2.1
 ·by_cases h2:u.2.2.2.1<(c.1.2.1.length:Int)
  ·rw[aA h1,aA h2]
   repeat' (first|exact⟨_,rfl⟩|split)
  ·rw[aD (show¬decide (u.2.2.2.1<(List.length c.1.2.1:Int))=true by simpa using h2)]
   repeat' (first|exact⟨_,rfl⟩|split)
 ·rw[aD (show¬decide ((0:Int)≤u.2.2.2.1)=true by simpa using h1)]
  repeat' (first|exact⟨_,rfl⟩|split)
def cN(s:cH)(a:Int):ZA:=(nth aU s.2.2.1 a).2.2.2.2.1
structure PJ(s:cH)(a b:Int):Prop where
 a0:0≤a
 a1:a<(s.2.2.1.length:Int)
 b0:0≤b
 b1:b<((cN s a).length:Int)
theorem k7(c:dB)(a b:Int):(PJ c.1 a b∧f107 c a b=some (true,(nth bO (cN c.1 a) b).2.1))∨(¬PJ c.1 a b∧∃t,f107 c a b=some (false,t)):=by
 unfold f107
 by_cases h1:a<0
 ·rw[db h1]
  exact Or.inr ⟨fun h=>by have:=h.a0;omega,_,rfl⟩
 ·rw[aD (by simpa using h1)]
  by_cases h2:(c.1.2.2.1.length:Int)≤a
  ·rw[db h2]
   exact Or.inr ⟨fun h=>by have:=h.a1;omega,_,rfl⟩
  ·rw[aD (by simpa using h2)]
   by_cases h3:b<0
   ·rw[db h3]
    exact Or.inr ⟨fun h=>by have:=h.b0;omega,_,rfl⟩
   ·rw[aD (by simpa using h3),aA (show 0≤a by omega),aA (show a<(c.1.2.2.1.length:Int) by omega)]
    by_cases h4:((cN c.1 a).length:Int)≤b
    ·have d4:decide (((cN c.1 a).length:Int)≤b)=true:=cU h4
     unfold cN at d4
     rw[d4,aK,aA rfl]
     exact Or.inr ⟨fun h=>by have:=h.b1;omega,_,rfl⟩
    ·have d4:decide (((cN c.1 a).length:Int)≤b)=false:=dZ h4
     have h5:b<((cN c.1 a).length:Int):=by omega
     have h6:=h5
     unfold cN at d4 h6
     rw[d4,aK,aD (by decide),aJ]
     dsimp only
     rw[aA (show 0≤a by omega),aA (show a<(c.1.2.2.1.length:Int) by omega),aA (show 0≤b by omega),aA h6]
     exact Or.inl ⟨⟨by omega,by omega,by omega,h5⟩,rfl⟩
structure PK(c:fK)(t:gv)(n:Int):Prop where
 v0:0≤t.2.2.1
 v1:t.2.2.1<n
 f:PJ c.1.1 (nth aL c.2.1.2.2.1 t.2.2.1).2.2.1 t.2.2.2.1
theorem nk(c:fK)(t:gv){n:Int}(hn:n≤(c.2.1.2.2.1.length:Int)):
 (PK c t n∧f204 c t n=some (true,(nth bO (cN c.1.1 (nth aL c.2.1.2.2.1 t.2.2.1).2.2.1) t.2.2.2.1).2.1))∨(¬PK c t n∧∃y,f204 c t n=some (false,y)):=by
 unfold f204
 by_cases h1:t.2.2.1<0
 ·rw[db h1]
  exact Or.inr ⟨fun h=>by have:=h.v0;omega,_,rfl⟩
 ·rw[aD (by simpa using h1)]
  by_cases h2:n≤t.2.2.1
  ·rw[cU h2,aK,aA rfl]
   exact Or.inr ⟨fun h=>by have:=h.v1;omega,_,rfl⟩
  ·rw[dZ h2,aK,aD (by decide),aJ]
   dsimp only
   rw[aA (show 0≤t.2.2.1 by omega),aA (show t.2.2.1<(c.2.1.2.2.1.length:Int) by omega)]
   rcases k7 c.1 (nth aL c.2.1.2.2.1 t.2.2.1).2.2.1 t.2.2.2.1 with⟨hi,e⟩|⟨hi,y,e⟩
   ·rw[e]
    exact Or.inl ⟨⟨by omega,by omega,hi⟩,rfl⟩
   ·rw[e]
    exact Or.inr ⟨fun h=>hi h.f,y,rfl⟩
theorem D5{t:dF}{n:Int}(h:f238 t n=some true):-1≤t.2.2.2.2.1∧t.2.2.2.2.1<n:=by
 unfold f238 at h
 by_cases h1:-1≤t.2.2.2.2.1
 ·by_cases h2:t.2.2.2.2.1<n
  ·exact⟨h1,h2⟩
  ·exfalso
   rw[aD (show¬decide (t.2.2.2.2.1<n)=true by simpa using h2)] at h
   repeat' (first|cases h;done|split at h)
 ·exfalso
  rw[aD (show¬decide ((-1:Int)≤t.2.2.2.2.1)=true by simpa using h1)] at h
  repeat' (first|cases h;done|split at h)
theorem sE{c:dB}{t:dF}(h:f114 c t=some true)(h1:t.1=1):-1≤t.2.2.2.2.1∧t.2.2.2.2.1<(c.1.2.1.length:Int):=by
 unfold f114 at h
 rw[aD (show¬decide (t.1<(1:Int))=true by rw[h1];decide),h1,aK,aD (by decide),aJ] at h
 dsimp only at h
 rw[h1,aA (by decide),aA (by decide),aD (by decide),aA rfl] at h
 obtain⟨q,hq⟩:=xS t (c.1.2.1.length:Int)
 rw[hq] at h
 cases h
 exact D5 hq
def HC(c:fK)(t:gv):dF:=(nth bO (cN c.1.1 (nth aL c.2.1.2.2.1 t.2.2.1).2.2.1) t.2.2.2.1).2.1
structure FO(c:fK)(j:Nat):Prop where
 s0:0≤(nth aL c.2.1.2.2.1 (j:Int)).2.2.1
 s1:(nth aL c.2.1.2.2.1 (j:Int)).2.2.1<(c.1.1.2.2.1.length:Int)
 of:(nth aL c.2.1.2.2.1 (j:Int)).2.2.2.1.2.2.1= -1∨PK c (nth aL c.2.1.2.2.1 (j:Int)).2.2.2.1 (j:Int)
 pk:(nth aL c.2.1.2.2.1 (j:Int)).2.2.2.1.2.2.1= -1∨(HC c (nth aL c.2.1.2.2.1 (j:Int)).2.2.2.1).1=3
theorem Sj(
 c:fK) (hl:c.2.1.2.2.1.length≤aG):∀(n i:Nat),c.2.1.2.2.1.length -i<n→i≤c.2.1.2.2.1.length→(∀j<i,FO c j)→
 (aI (U:=Unit) (tq n (c.2.1.2.2.1,(c.2.1.2.2.1.length:Int),(i:Int),c)) (fun _=>some true)=some true∧∀j<c.2.1.2.2.1.length,FO c j)∨aI (U:=Unit) (tq n (c.2.1.2.2.1,(c.2.1.2.2.1.length:Int),(i:Int),c)) (fun _=>some true)=some false:=by
 intro n
 have hB:=hB
 induction n with
 |zero=>intro i h;omega
 |
  succ n ih=>
  intro i hn hi hd
  unfold tq at ih ⊢
  rw[aO]
  generalize aM _ n=rec at ih ⊢
  dsimp only
  by_cases h:i<c.2.1.2.2.1.length
  ·rw[db (by
    omega),fP i,aA (show(i:Int)<(c.2.1.2.2.1.length:Int) by omega)]
   by_cases h1:(nth aL c.2.1.2.2.1 (i:Int)).2.2.1<0
   ·rw[db h1];exact Or.inr rfl
   ·rw[aD (show¬decide ((nth aL c.2.1.2.2.1 (i:Int)).2.2.1<(0:Int))=true by simpa using h1)]
    by_cases h2:(c.1.1.2.2.1.length:Int)≤(nth aL c.2.1.2.2.1 (i:Int)).2.2.1
    ·rw[cU h2,aK,aA rfl];exact Or.inr rfl
    ·rw[dZ h2,aK,aD (by decide),aJ]
     dsimp only
     rw[bG (by omega)]
     by_cases h3:(nth aL c.2.1.2.2.1 (i:Int)).2.2.2.1.2.2.1= -1
     ·rw[db h3]
      exact ih (i+1) (by omega) (by omega) fun j hj=>by
       by_cases e:j=i
       ·subst e;exact⟨Int.not_lt.1 h1,Int.not_le.1 h2,Or.inl h3,Or.inl h3⟩
       ·exact hd j (by omega)
     ·rw[aD (show¬decide ((nth aL c.2.1.2.2.1 (i:Int)).2.2.2.1.2.2.1=(-1:Int))=true by simpa using h3)]
      rcases nk c (nth aL c.2.1.2.2.1 (i:Int)).2.2.2.1 (n:=(i:Int)) (by omega) with⟨hit,e⟩|⟨_,y,e⟩
      ·rw[e,aK]
       dsimp only
       rw[aD (by decide),aK]
       by_cases h4:(HC c (nth aL c.2.1.2.2.1 (i:Int)).2.2.2.1).1=3
       ·have h5:=h4
        unfold HC at h5
        rw[aD (by simp[h5])]
        exact ih (i+1) (by omega) (by omega) fun j hj=>by
         by_cases e:j=i
         ·subst e;exact⟨Int.not_lt.1 h1,Int.not_le.1 h2,Or.inr hit,Or.inr h4⟩
         ·exact hd j (by omega)
       ·unfold HC at h4
        rw[aA (by simpa using h4)]
        exact Or.inr rfl
      ·rw[e,aK]
       dsimp only
       rw[aA (by decide),aK,aA rfl]
       exact Or.inr rfl
  ·rw[gY (by omega)]
   exact Or.inl ⟨rfl,fun j hj=>hd j (by omega)⟩
theorem D6(c:fK)(hl:c.2.1.2.2.1.length≤aG):(f105 c=some true∧1≤c.2.1.2.2.1.length∧c.2.1.2.2.1.length≤3∧∀j<c.2.1.2.2.1.length,FO c j)∨f105 c=some false:=by
 unfold f105
 by_cases h1:(c.2.1.2.2.1.length:Int)<1
 ·rw[db h1];exact Or.inr rfl
 ·rw[aD (show¬decide ((c.2.1.2.2.1.length:Int)<(1:Int))=true by simpa using h1)]
  by_cases h2:(3:Int)<(c.2.1.2.2.1.length:Int)
  ·rw[cU h2,aK,aA rfl];exact Or.inr rfl
  ·rw[dZ h2,aK,aD (by decide),aJ]
   rcases Sj c hl (c.2.1.2.2.1.length+1) 0 (by omega) (by omega) (fun j hj=>by omega) with⟨e,h⟩|e
   ·exact Or.inl ⟨e,by omega,by omega,h⟩
   ·exact Or.inr e
def UO(s:cH):Prop:=∀x∈s.2.2.1,∀f∈x.2.2.2.2.1,f.2.1.1=1→-1≤f.2.1.2.2.2.2.1∧f.2.1.2.2.2.2.1<(s.2.1.length:Int)
def NB(s:cH):Prop:=∀x∈s.2.2.1,x.2.2.2.2.1.length≤aG∧∀f∈x.2.2.2.2.1,(dJ f.2.1).length≤aG
theorem PJ.mem{s:cH}{a b:Int}(h:PJ s a b):nth aU s.2.2.1 a∈s.2.2.1∧nth bO (cN s a) b∈(nth aU s.2.2.1 a).2.2.2.2.1:=
 ⟨dw h.a0 h.a1,dw (t:=bO) (l:=cN s a) h.b0 h.b1⟩
theorem vZ(c:dB)(a b:dF)(hn:(dJ a).length≤aG)(ha:a.1=1→-1≤a.2.2.2.2.1∧a.2.2.2.2.1<(c.1.2.1.length:Int))(hb:b.1=1→-1≤b.2.2.2.2.1∧b.2.2.2.2.1<(c.1.2.1.length:Int)):∃r,f206 c a b=some r:=by
 unfold f206
 by_cases h1:a.1=b.1
 ·rw[aD (by simp[h1])]
  by_cases h4:a.1=4
  ·rw[db h4]
   obtain⟨q,hq⟩:=vY (dJ a) (dJ b) hn
   unfold dJ at hq
   rw[hq];exact⟨_,rfl⟩
  ·rw[aD (show¬decide (a.1=(4:Int))=true by simpa using h4)]
   by_cases e1:a.1=1
   ·obtain⟨ha1,ha2⟩:=ha e1
    obtain⟨hb1,hb2⟩:=hb (by omega)
    rw[aD (by simp[e1])]
    by_cases u1:a.2.2.2.2.1= -1
    ·rw[db u1];exact⟨_,rfl⟩
    ·rw[aD (show¬decide (a.2.2.2.2.1=(-1:Int))=true by simpa using u1)]
     by_cases u2:b.2.2.2.2.1= -1
     ·rw[cU u2];exact⟨_,rfl⟩
     ·rw[dZ u2,aK,aD (by decide),aJ]
      dsimp only
      rw[aA (by omega),aA ha2,aA (by omega),aA hb2]
      exact⟨_,rfl⟩
   ·rw[aA (by simp[e1])];exact⟨_,rfl⟩
 ·rw[aA (by simp[h1])];exact⟨_,rfl⟩
def wK(c:fK)(t:gv):Prop:=PK c t (c.2.1.2.2.1.length:Int)∨t.2.2.1= -1
def SV(c:fK)(y:dF)(t:gv):Prop:=(t.2.2.1= -1∧y.2.1≤t.2.2.2.2.1∧t.2.2.2.2.1≤y.2.2.1)∨(PK c t (c.2.1.2.2.1.length:Int)∧y.2.1≤(HC c t).2.1∧(HC c t).2.2.1≤y.2.2.1)
theorem PN{P:Prop}{x:Zo}(h:∃z,x=some z∧(z=true→P)):∃r,(Option.bind x fun v=>some v)=some r∧(r=true→P):=by
 obtain⟨z,rfl,h⟩:=h
 exact⟨z,rfl,h⟩
def GT(s:cH)(y:dF):Prop:=(dJ y).length≤aG∧(y.1=1→-1≤y.2.2.2.2.1∧y.2.2.2.2.1<(s.2.1.length:Int))
theorem PK.gt{c:fK}{t:gv}{n:Int}(h:PK c t n)(hN:NB c.1.1)(hU:UO c.1.1):GT c.1.1 (HC c t):=by
 obtain⟨h1,h2⟩:=h.f.mem
 exact⟨(hN _ h1).2 _ h2,hU _ h1 _ h2⟩
theorem sF(t:gv):∃r,f205 t=some r∧(r=true→t.2.2.1= -1):=by
 unfold f205
 by_cases h:t.2.2.1= -1
 ·obtain⟨r,hr⟩:∃r,(Option.bind (α:=Bool) (if(decide (t.2.2.1=(-1:Int)))=true then(if(decide ((0:Int)≤t.2.2.2.2.1))=true then(some (decide (t.2.2.2.2.1≤(1048576:Int)))) else(some false)) else(some false)) fun v1=>some v1)=some r:=by
   refine fq ?_ fun v=>⟨v,rfl⟩
   repeat' (first|exact⟨_,rfl⟩|split)
  exact⟨r,hr,fun _=>h⟩
 ·rw[aD (show¬decide (t.2.2.1=(-1:Int))=true by simpa using h)]
  exact⟨false,rfl,fun h=>(by cases h)⟩
theorem Ks(c:fK)(y:dF)(t:gv)(hN:NB c.1.1):∃r,f108 c y t=some r∧(r=true→wK c t∧SV c y t):=by
 unfold f108
 obtain⟨b,hb,hbm⟩:=sF t
 rw[hb,aK]
 cases b with
 |
  true=>
  rw[aA rfl]
  refine PN ?_
  by_cases h1:y.2.1≤t.2.2.2.2.1
  ·rw[db h1]
   exact⟨_,rfl,fun h=>⟨Or.inr (hbm rfl),Or.inl ⟨hbm rfl,h1,ki h⟩⟩⟩
  ·rw[aD (fun h=>h1 (ki h))]
   exact⟨false,rfl,fun h=>(by cases h)⟩
 |
  false=>
  rw[aD (by decide)]
  rcases nk c t (n:=(c.2.1.2.2.1.length:Int)) (mV _) with⟨hi,e⟩|⟨_,z,e⟩
  ·rw[e,aK]
   dsimp only
   have h1:=hi.f.mem
   obtain⟨q,hq⟩:=vY (dJ (HC c t)) (dJ y) ((hN _ h1.1).2 _ h1.2)
   unfold dJ HC at hq
   refine PN ?_
   rw[aA rfl]
   simp only[hq,aK]
   by_cases g1:y.2.1≤(HC c t).2.1
   ·by_cases g2:(HC c t).2.2.1≤y.2.2.1
    ·have key:∀x:Zo,(∃r,x=some r)→∃r,x=some r∧(r=true→wK c t∧SV c y t):=fun x ⟨r,hr⟩=>⟨r,hr,fun _=>⟨Or.inl hi,Or.inr ⟨hi,g1,g2⟩⟩⟩
     apply key
     repeat' (first|exact⟨_,rfl⟩|split)
    ·unfold HC at g2
     simp only[dZ g2]
     repeat' (first|exact⟨false,rfl,fun h=>(by cases h)⟩|split)
   ·unfold HC at g1
    simp only[dZ g1]
    repeat' (first|exact⟨false,rfl,fun h=>(by cases h)⟩|split)
  ·rw[e,aK]
   exact⟨false,rfl,fun h=>(by cases h)⟩
theorem Sk(c:fK)(a:oL)(hN:NB c.1.1)(hU:UO c.1.1)(e:Zq)(he:e.length≤1000):∀(n i:Nat)(g:List dF),e.length -i<n→i≤e.length→g.length≤i→(∀y∈g,GT c.1.1 y)→(∀j(hj:j<e.length),j<i→wK c e[j])→
 (∃g',nI n ((e.length:Int),(i:Int),c,a,e,g)=some (.brk (c,a,g'))∧g'.length≤e.length∧(∀y∈g',GT c.1.1 y)∧∀t∈e,wK c t)∨nI n ((e.length:Int),(i:Int),c,a,e,g)=some (.ret false):=by
 intro n
 have hB:=hB
 induction n with
 |zero=>intro i g h;omega
 |
  succ n ih=>
  intro i g hn hi hgl hg hd
  unfold nI at ih ⊢
  rw[aO]
  generalize aM _ n=rec at ih ⊢
  dsimp only
  by_cases h:i<e.length
  ·rw[db (by omega),fP i,aA (show(i:Int)<(e.length:Int) by omega),ew (t:=aS) h,bG (by omega)]
   rcases nk c e[i] (n:=(c.2.1.2.2.1.length:Int)) (mV _) with⟨hit,e1⟩|⟨_,y,e1⟩
   ·rw[e1,aK]
    dsimp only
    rw[aD (by decide),aK,aD (by decide),aA rfl,aA (show(g.length+List.length [_])*72≤aG by rw[cY];omega)]
    exact ih (i+1) _ (by omega) (by omega) (by rw[eI,cY];omega) (fun z hz=>by
     rcases List.mem_append.1 hz with hz|hz
     ·exact hg z hz
     ·rw[jP] at hz
      subst hz
      exact hit.gt hN hU) fun j hj hji=>by
     by_cases ej:j=i
     ·subst ej;exact Or.inl hit
     ·exact hd j hj (by omega)
   ·rw[e1,aK]
    dsimp only
    obtain⟨b,hb,hbm⟩:=sF e[i]
    rw[aA (by decide),hb,aK,aK]
    cases b with
    |false=>rw[aA (by decide)];exact Or.inr rfl
    |
     true=>
     rw[aD (by decide),aD (by decide)]
     exact ih (i+1) g (by omega) (by omega) (by omega) hg fun j hj hji=>by
      by_cases ej:j=i
      ·subst ej;exact Or.inr (hbm rfl)
      ·exact hd j hj (by omega)
  ·rw[gY (by omega)]
   refine Or.inl ⟨g,rfl,by omega,hg,fun t ht=>?_⟩
   obtain⟨j,hj,rfl⟩:=kV ht
   exact hd j hj (by omega)
theorem OS(a:oL)(g:List dF)(hg:g.length≤1000):∀(n i:Nat),g.length -i<n→i≤g.length→∃r,aI (U:=Unit) (mQ n ((g.length:Int),(i:Int),a,g)) (fun _=>some true)=some r:=by
 intro n
 induction n with
 |zero=>intro i h;omega
 |
  succ n ih=>
  intro i hn hi
  unfold mQ at ih ⊢
  rw[aO]
  generalize aM _ n=rec at ih ⊢
  dsimp only
  by_cases h:i<g.length
  ·rw[db (by omega),fP i,aA (show(i:Int)<(g.length:Int) by omega),bG (by omega)]
   have key:∀v:Bool,∃r,aI (U:=Unit) (Option.bind (α:=Bool) (if(decide (a.1=(2:Int)))=true then(some (!v)) else(if(decide (a.1=(3:Int)))=true then(some (!v)) else(some false))) fun v16=>if v16=true then(cw (some false)) else(rec ((g.length:Int),((i+1:Nat):Int),a,g))) (fun _=>some true)=some r:=by
    intro v
    have h2:∀w:Bool,∃r,aI (U:=Unit) (if w=true then(cw (some false)) else(rec ((g.length:Int),((i+1:Nat):Int),a,g))) (fun _=>some true)=some r:=fun w=>by
     cases w with
     |true=>exact⟨_,rfl⟩
     |false=>exact ih (i+1) (by omega) (by omega)
    split
    ·exact h2 (!v)
    ·split
     ·exact h2 (!v)
     ·exact h2 false
   split
   ·exact key _
   ·exact key _
  ·rw[gY (by omega)]
   exact⟨_,rfl⟩
theorem HD(c:fK)(a:oL)(hN:NB c.1.1)(hU:UO c.1.1):∃r,f106 c a=some r∧(r=true→wK c a.2.1∧wK c a.2.2.1):=by
 have hB:=hB
 unfold f106
 by_cases h1:a.1<1
 ·rw[db h1];exact⟨_,rfl,fun h=>(by cases h)⟩
 ·rw[aD (show¬decide (a.1<(1:Int))=true by simpa using h1)]
  by_cases h2:(4:Int)<a.1
  ·rw[cU h2];exact⟨_,rfl,fun h=>(by cases h)⟩
  ·rw[dZ h2,aK,aD (by decide),aJ]
   dsimp only
   rcases Sk c a hN hU [a.2.1,a.2.2.1] (by simp) 3 0 [] (by simp) (by simp) (by simp) (fun y hy=>(by cases hy)) (fun j hj h=>by omega) with⟨g,e,hgl,hg,ht⟩|e
   ·have e':nI (Int.toNat (List.length [a.2.1,a.2.2.1]:Int)+1) ((List.length [a.2.1,a.2.2.1]:Int),(0:Int),c,a,[a.2.1,a.2.2.1],([]:List dF))=some (.brk (c,a,g)):=e
    rw[e',aJ]
    dsimp only
    have hgl2:g.length≤2:=hgl
    have key:∀x:Zo,(∃r,x=some r)→∃r,x=some r∧(r=true→wK c a.2.1∧wK c a.2.2.1):=fun x ⟨r,hr⟩=>⟨r,hr,fun _=>⟨ht _ (by simp),ht _ (by simp)⟩⟩
    apply key
    have h16:∃r,aI (U:=Unit) (mQ (Int.toNat (List.length g:Int)+1) ((List.length g:Int),(0:Int),a,g)) (fun _=>some true)=some r:=OS a g (by omega) _ 0 (by omega) (by omega)
    have h3:∀v:Bool,∃r,aI (U:=oL×List dF) (if v=true then(cw (some false)) else(some (.brk (a,g)))) (fun u=>match u with|⟨x,f⟩=>aI (U:=Unit) (mQ (Int.toNat (List.length f:Int)+1) ((List.length f:Int),(0:Int),x,f)) fun _=>some true)=some r:=fun v=>by
     cases v with
     |true=>exact⟨_,rfl⟩
     |false=>exact h16
    by_cases g0:(g.length:Int)=0
    ·rw[db g0]
     exact h3 true
    ·rw[aD (show¬decide ((g.length:Int)=(0:Int))=true by simpa using g0)]
     by_cases g2:(g.length:Int)=2
     ·rw[db g2,aA (by omega),aA (by omega)]
      have m0:=hg _ (dw (t:=fp) (l:=g) (a:=0) (by omega) (by omega))
      have m1:=hg _ (dw (t:=fp) (l:=g) (a:=1) (by omega) (by omega))
      obtain⟨q,hq⟩:=vZ c.1 (nth fp g (0:Int)) (nth fp g (1:Int)) m0.1 m0.2 m1.2
      rw[hq]
      exact h3 _
     ·rw[aD (show¬decide ((g.length:Int)=(2:Int))=true by simpa using g2)]
      exact h3 false
   ·have e':nI (Int.toNat (List.length [a.2.1,a.2.2.1]:Int)+1) ((List.length [a.2.1,a.2.2.1]:Int),(0:Int),c,a,[a.2.1,a.2.2.1],([]:List dF))=some (.ret false):=e
    rw[e',fv]
    exact⟨_,rfl,fun h=>(by cases h)⟩
structure RK(c:fK):Prop where
 n1:1≤c.2.1.2.2.1.length
 n3:c.2.1.2.2.1.length≤3
 fo:∀j<c.2.1.2.2.1.length,FO c j
 wh:∀a∈c.2.1.2.2.2.1,wK c a.2.1∧wK c a.2.2.1
 h0:0≤c.2.1.2.1
 h1:c.2.1.2.1<(c.1.1.2.2.1.length:Int)
 st:∀s∈c.2.1.2.2.2.2.1,PJ c.1.1 c.2.1.2.1 s.2.1∧wK c s.2.2.1
 sv:∀s∈c.2.1.2.2.2.2.1,s.2.1≠0∧SV c (nth bO (cN c.1.1 c.2.1.2.1) s.2.1).2.1 s.2.2.1
 sd:(c.2.1.2.2.2.2.1.map (·.2.1)).Nodup
 sn:(c.2.1.2.2.2.2.1.length:Int)=bB (((cN c.1.1 c.2.1.2.1).length:Int) -(1:Int))
theorem Sl(c:fK)(hN:NB c.1.1)(hU:UO c.1.1)(l:Zz)(hl:l.length≤aG):∀(n i:Nat),l.length -i<n→i≤l.length→(∀j(hj:j<l.length),j<i→wK c l[j].2.1∧wK c l[j].2.2.1)→
 (qZ n (l,(l.length:Int),(i:Int),c)=some (.brk c)∧∀a∈l,wK c a.2.1∧wK c a.2.2.1)∨qZ n (l,(l.length:Int),(i:Int),c)=some (.ret false):=by
 intro n
 have hB:=hB
 induction n with
 |zero=>intro i h;omega
 |
  succ n ih=>
  intro i hn hi hd
  unfold qZ at ih ⊢
  rw[aO]
  generalize aM _ n=rec at ih ⊢
  dsimp only
  by_cases h:i<l.length
  ·obtain⟨r,hr,hm⟩:=HD c l[i] hN hU
   rw[db (by omega),fP i,aA (show(i:Int)<(l.length:Int) by omega),ew (t:=aQ) h,bG (by omega),hr,aK]
   cases r with
   |false=>rw[aA (by decide)];exact Or.inr rfl
   |
    true=>
    rw[aD (by decide)]
    exact ih (i+1) (by omega) (by omega) fun j hj hji=>by
     by_cases ej:j=i
     ·subst ej;exact hm rfl
     ·exact hd j hj (by omega)
  ·rw[gY (by omega)]
   refine Or.inl ⟨rfl,fun t ht=>?_⟩
   obtain⟨j,hj,rfl⟩:=kV ht
   exact hd j hj (by omega)
theorem OT(c:fK)(hN:NB c.1.1)(h0:Int)(l:ZB)(hl:l.length*80≤aG):∀(n i:Nat)(g:Zf),l.length -i<n→i≤l.length→g=(l.take i).map (·.2.1)→(∀j(hj:j<l.length),j<i→PJ c.1.1 h0 l[j].2.1∧wK c l[j].2.2.1∧l[j].2.1≠0∧SV c (nth bO (cN c.1.1 h0) l[j].2.1).2.1 l[j].2.2.1)→
 (∃g',nJ n (h0,l,(l.length:Int),(i:Int),c,g)=some (.brk g')∧g'=l.map (·.2.1)∧∀s∈l,PJ c.1.1 h0 s.2.1∧wK c s.2.2.1∧s.2.1≠0∧SV c (nth bO (cN c.1.1 h0) s.2.1).2.1 s.2.2.1)∨nJ n (h0,l,(l.length:Int),(i:Int),c,g)=some (.ret false):=by
 intro n
 have hB:=hB
 induction n with
 |zero=>intro i g h;omega
 |
  succ n ih=>
  intro i g hn hi hgl hd
  unfold nJ at ih ⊢
  rw[aO]
  generalize aM _ n=rec at ih ⊢
  dsimp only
  by_cases h:i<l.length
  ·rw[db (by omega),fP i,aA (show(i:Int)<(l.length:Int) by omega),ew (t:=aZ) h,bG (by omega)]
   rcases k7 c.1 h0 l[i].2.1 with⟨hit,e1⟩|⟨_,y,e1⟩
   ·rw[e1,aK]
    dsimp only
    rw[aD (by decide)]
    by_cases hz:l[i].2.1=0
    ·rw[db hz,aK,aA rfl];exact Or.inr rfl
    ·obtain⟨r,hr,hm⟩:=Ks c (nth bO (cN c.1.1 h0) l[i].2.1).2.1 l[i].2.2.1 hN
     rw[aD (show¬decide (l[i].2.1=(0:Int))=true by simpa using hz),hr,aK,aK]
     cases r with
     |false=>rw[aA (by decide)];exact Or.inr rfl
     |
      true=>
      rw[aD (by decide),aA (show(g.length+List.length [_])*8≤aG by rw[cY,hgl,iD,mS];omega)]
      exact ih (i+1) _ (by omega) (by omega) (by rw[hgl,←List.take_append_getElem h,r9];rfl) fun j hj hji=>by
       by_cases ej:j=i
       ·subst ej;exact⟨hit,(hm rfl).1,hz,(hm rfl).2⟩
       ·exact hd j hj (by omega)
   ·rw[e1,aK]
    dsimp only
    rw[aA (by decide),aK,aA rfl];exact Or.inr rfl
  ·rw[gY (by omega)]
   refine Or.inl ⟨g,rfl,by rw[hgl,gR (by omega)],fun t ht=>?_⟩
   obtain⟨j,hj,rfl⟩:=kV ht
   exact hd j hj (by omega)
theorem HE(c:fK)(hN:NB c.1.1)(hU:UO c.1.1)(hf:c.2.1.2.2.1.length≤aG)(hw:c.2.1.2.2.2.1.length≤aG)(hs:c.2.1.2.2.2.2.1.length*80≤aG):∃r,f50 c=some r∧(r=true→RK c):=by
 have hB:=hB
 have no:∀x:Zo,x=some false→∃r,x=some r∧(r=true→RK c):=fun x hx=>⟨false,hx,fun h=>(by cases h)⟩
 unfold f50
 rcases D6 c hf with⟨e,h1,h3,hfo⟩|e
 ·rw[e,aK,aD (by decide)]
  by_cases h8:(8:Int)<(c.2.1.2.2.2.1.length:Int)
  ·rw[cU h8];exact no _ rfl
  ·rw[dZ h8,aK,aD (by decide),aJ]
   rcases Sl c hN hU c.2.1.2.2.2.1 hw (c.2.1.2.2.2.1.length+1) 0 (by omega) (by omega) (fun j hj h=>by omega) with⟨e4,hwh⟩|e4
   ·have e4':qZ (Int.toNat (List.length c.2.1.2.2.2.1:Int)+1) (c.2.1.2.2.2.1,(List.length c.2.1.2.2.2.1:Int),(0:Int),c)=some (.brk c):=e4
    rw[e4',aJ]
    by_cases d1:c.2.1.2.1<0
    ·rw[db d1];exact no _ rfl
    ·rw[aD (show¬decide (c.2.1.2.1<(0:Int))=true by simpa using d1)]
     by_cases d2:(c.1.1.2.2.1.length:Int)≤c.2.1.2.1
     ·rw[db d2];exact no _ rfl
     ·rw[aD (show¬decide ((c.1.1.2.2.1.length:Int)≤c.2.1.2.1)=true by simpa using d2),aA (Int.not_lt.1 d1),aA (Int.not_le.1 d2),aK]
      by_cases hsn:(c.2.1.2.2.2.2.1.length:Int)=bB (((cN c.1.1 c.2.1.2.1).length:Int) -(1:Int))
      rotate_left
      ·unfold cN at hsn
       rw[aA (by simpa using hsn)];exact no _ rfl
      ·have hsn':=hsn
       unfold cN at hsn'
       rw[aD (by simp[hsn']),aJ]
       dsimp only
       rcases OT c hN c.2.1.2.1 c.2.1.2.2.2.2.1 hs (c.2.1.2.2.2.2.1.length+1) 0 [] (by omega) (by omega) rfl (fun j hj h=>by omega) with⟨g,e14,hgl,hst⟩|e14
       ·have e14':nJ (Int.toNat (List.length c.2.1.2.2.2.2.1:Int)+1) (c.2.1.2.1,c.2.1.2.2.2.2.1,(List.length c.2.1.2.2.2.2.1:Int),(0:Int),c,([]:Zf))=some (.brk g):=e14
        rw[e14',aJ]
        obtain⟨q,hq,hqd⟩:=Hx g (by rw[hgl,iD];omega)
        rw[hq]
        exact⟨q,rfl,fun hq1=>⟨h1,h3,hfo,hwh,Int.not_lt.1 d1,Int.not_le.1 d2,fun s hs=>⟨(hst s hs).1,(hst s hs).2.1⟩,fun s hs=>(hst s hs).2.2,hgl▸hqd hq1,hsn⟩⟩
       ·have e14':nJ (Int.toNat (List.length c.2.1.2.2.2.2.1:Int)+1) (c.2.1.2.1,c.2.1.2.2.2.2.1,(List.length c.2.1.2.2.2.2.1:Int),(0:Int),c,([]:Zf))=some (.ret false):=e14
        rw[e14',fv];exact no _ rfl
   ·have e4':qZ (Int.toNat (List.length c.2.1.2.2.2.1:Int)+1) (c.2.1.2.2.2.1,(List.length c.2.1.2.2.2.1:Int),(0:Int),c)=some (.ret false):=e4
    rw[e4',fv];exact no _ rfl
 ·rw[e,aK,aA (by decide)];exact no _ rfl
theorem Kt(x:ZA)(a b:Int)(w:AW)(c:dB):∀(n i:Nat),4 -i<n→i≤4→qY n (x,a,b,w,(i:Int),c)=some (.brk (x,a,b,c))∨qY n (x,a,b,w,(i:Int),c)=some (.ret (.ret false)):=by
 intro n
 induction n with
 |zero=>intro i h;omega
 |
  succ n ih=>
  intro i hn hi
  unfold qY at ih ⊢
  rw[aO]
  generalize aM _ n=rec at ih ⊢
  dsimp only
  by_cases h:i<4
  ·rw[db (by omega),fP i,aA (show(i:Int)<4 by omega),bG (by omega)]
   have h2:∀v:Bool,(if v=true then(cw (cw (some false))) else(rec (x,a,b,w,((i+1:Nat):Int),c)))=some (.brk (x,a,b,c))∨(if v=true then(cw (cw (some false))) else(rec (x,a,b,w,((i+1:Nat):Int),c)))=some (.ret (.ret false)):=fun v=>by
    cases v with
    |true=>exact Or.inr rfl
    |false=>exact ih (i+1) (by omega) (by omega)
   split
   ·exact h2 true
   ·exact h2 _
  ·rw[gY (by omega)]
   exact Or.inl rfl
theorem Ku(c:dB)(l:ZA)(hl:l.length≤aG)(hn:∀f∈l,(dJ f.2.1).length≤aG):∀(n i:Nat),l.length -i<n→i≤l.length→(∀j(hj:j<l.length),j<i→f114 c l[j].2.1=some true)→
 (aI (U:=Unit) (yZ n (l,(l.length:Int),(i:Int),c)) (fun _=>some true)=some true∧∀f∈l,f114 c f.2.1=some true)∨aI (U:=Unit) (yZ n (l,(l.length:Int),(i:Int),c)) (fun _=>some true)=some false:=by
 intro n
 have hB:=hB
 induction n with
 |zero=>intro i h;omega
 |
  succ n ih=>
  intro i hn' hi hd
  unfold yZ at ih ⊢
  rw[aO]
  generalize aM _ n=rec at ih ⊢
  dsimp only
  by_cases h:i<l.length
  ·obtain⟨r,hr⟩:=ph c l[i].2.1 (hn _ (kg h))
   rw[db (by omega),fP i,aA (show(i:Int)<(l.length:Int) by omega),ew (t:=bO) h,hr,aK]
   cases r with
   |false=>rw[aA (by decide)];exact Or.inr rfl
   |
    true=>
    rw[aD (by decide)]
    have e9:=Kt l (l.length:Int) (i:Int) l[i].2.2.1 c (Int.toNat (4:Int)+1) 0 (by decide) (by decide)
    rcases e9 with e9|e9
    ·have e9':qY (Int.toNat (4:Int)+1) (l,(l.length:Int),(i:Int),l[i].2.2.1,(0:Int),c)=some (.brk (l,(l.length:Int),(i:Int),c)):=e9
     rw[e9',aJ]
     dsimp only
     rw[bG (by omega)]
     exact ih (i+1) (by omega) (by omega) fun j hj hji=>by
      by_cases ej:j=i
      ·subst ej;exact hr
      ·exact hd j hj (by omega)
    ·have e9':qY (Int.toNat (4:Int)+1) (l,(l.length:Int),(i:Int),l[i].2.2.1,(0:Int),c)=some (.ret (.ret false)):=e9
     rw[e9',fv]
     exact Or.inr rfl
  ·rw[gY (by omega)]
   refine Or.inl ⟨rfl,fun t ht=>?_⟩
   obtain⟨j,hj,rfl⟩:=kV ht
   exact hd j hj (by omega)
theorem sG(c:dB)(x:lu)(hl:x.2.2.2.2.1.length≤aG)(hn:∀f∈x.2.2.2.2.1,(dJ f.2.1).length≤aG):∃r,f54 c x=some r∧(r=true→(1≤x.2.2.2.2.1.length∧(nth bO x.2.2.2.2.1 (0:Int)).2.1.1=3)∧∀f∈x.2.2.2.2.1,f114 c f.2.1=some true):=by
 have no:∀y:Zo,y=some false→∃r,y=some r∧(r=true→(1≤x.2.2.2.2.1.length∧(nth bO x.2.2.2.2.1 (0:Int)).2.1.1=3)∧∀f∈x.2.2.2.2.1,f114 c f.2.1=some true):=fun y hy=>⟨false,hy,fun h=>(by cases h)⟩
 unfold f54
 by_cases h1:x.2.2.1<0
 ·rw[db h1];exact no _ rfl
 ·rw[aD (show¬decide (x.2.2.1<(0:Int))=true by simpa using h1)]
  by_cases h2:(c.1.1.length:Int)≤x.2.2.1
  ·rw[db h2];exact no _ rfl
  ·rw[aD (show¬decide ((c.1.1.length:Int)≤x.2.2.1)=true by simpa using h2)]
   by_cases h3:x.2.2.2.1<1
   ·rw[db h3];exact no _ rfl
   ·rw[aD (show¬decide (x.2.2.2.1<(1:Int))=true by simpa using h3)]
    by_cases h4:(255:Int)<x.2.2.2.1
    ·rw[db h4];exact no _ rfl
    ·rw[aD (show¬decide ((255:Int)<x.2.2.2.1)=true by simpa using h4)]
     by_cases h5:(x.2.2.2.2.1.length:Int)<1
     ·rw[db h5];exact no _ rfl
     ·rw[aD (show¬decide ((x.2.2.2.2.1.length:Int)<(1:Int))=true by simpa using h5)]
      by_cases h6:(12:Int)<(x.2.2.2.2.1.length:Int)
      ·rw[db h6];exact no _ rfl
      ·rw[aD (show¬decide ((12:Int)<(x.2.2.2.2.1.length:Int))=true by simpa using h6),aA (show(0:Int)<(x.2.2.2.2.1.length:Int) by omega),aK]
       by_cases h7:(nth bO x.2.2.2.2.1 (0:Int)).2.1.1=3
       rotate_left
       ·rw[aA (by simpa using h7)];exact no _ rfl
       ·rw[aD (by simp[h7]),aJ]
        dsimp only
        rcases Ku c x.2.2.2.2.1 hl hn (x.2.2.2.2.1.length+1) 0 (by omega) (by omega) (fun j hj h=>by omega) with⟨e,h⟩|e
        ·exact⟨true,e,fun _=>⟨⟨by omega,h7⟩,h⟩⟩
        ·exact no _ e
theorem wL(c:dB)(p:nU)(hp:p.2.1.length≤aG):∃r,f57 c p=some r:=by
 have hB:=hB
 have key:∀(n i:Nat),p.2.1.length -i<n→i≤p.2.1.length→rf n (p.2.1,(p.2.1.length:Int),(i:Int),c,p)=some (.brk p)∨rf n (p.2.1,(p.2.1.length:Int),(i:Int),c,p)=some (.ret false):=by
  intro n
  induction n with
  |zero=>intro i h;omega
  |
   succ n ih=>
   intro i hn hi
   unfold rf at ih ⊢
   rw[aO]
   generalize aM _ n=rec at ih ⊢
   dsimp only
   by_cases h:i<p.2.1.length
   ·rw[db (by omega),fP i,aA (show(i:Int)<(p.2.1.length:Int) by omega),bG (by omega)]
    rcases k7 c (nth eQ p.2.1 (i:Int)).2.2.1 (nth eQ p.2.1 (i:Int)).2.2.2.1 with⟨_,e1⟩|⟨_,y,e1⟩
    ·rw[e1,aK]
     dsimp only
     rw[aD (by decide)]
     exact ih (i+1) (by omega) (by omega)
    ·rw[e1,aK]
     exact Or.inr rfl
   ·rw[gY (by omega)]
    exact Or.inl rfl
 unfold f57
 have e:=key (Int.toNat (List.length p.2.1:Int)+1) 0 (by omega) (by omega)
 rcases e with e|e
 ·have e':rf (Int.toNat (List.length p.2.1:Int)+1) (p.2.1,(List.length p.2.1:Int),(0:Int),c,p)=some (.brk p):=e
  rw[e',aJ]
  refine fq ?_ fun v=>⟨v,rfl⟩
  repeat' (first|exact⟨_,rfl⟩|split)
 ·have e':rf (Int.toNat (List.length p.2.1:Int)+1) (p.2.1,(List.length p.2.1:Int),(0:Int),c,p)=some (.ret false):=e
  rw[e',fv]
  exact⟨_,rfl⟩
structure SW(s:cH):Prop where
 nn:s.2.1.length≤aG
 dT:s.2.2.1.length≤aG
 rules:s.2.2.2.1.length≤aG
 fu:s.2.2.2.2.2.1.length≤aG
 nb:NB s
 rl:∀r∈s.2.2.2.1,r.2.2.1.length≤aG∧r.2.2.2.1.length≤aG∧r.2.2.2.2.1.length*80≤aG
 may:∀p∈s.2.2.2.2.2.1,p.2.1.length≤aG
structure TG(s:cH):Prop where
 many:s.2.2.1.length≤16
 fields:∀x∈s.2.2.1,1≤x.2.2.2.2.1.length
 ok:∀x∈s.2.2.1,∀f∈x.2.2.2.2.1,f114 (s,()) f.2.1=some true
 nn:UO s
 rules:∀r∈s.2.2.2.1,RK ((s,()),(r,()))
 self:∀x∈s.2.2.1,(nth bO x.2.2.2.2.1 (0:Int)).2.1.1=3
 uok:∀u∈s.2.1,f52 (s,()) u=some true
theorem D7(s:cH)(h:s.2.2.2.2.2.1.length≤aG):∃r,f48 (s,())=some r∧(r=true→s.2.2.1.length≤16):=by
 have no:∀y:Zo,y=some false→∃r,y=some r∧(r=true→s.2.2.1.length≤16):=fun y hy=>⟨false,hy,fun h=>(by cases h)⟩
 unfold f48
 obtain⟨i,hi,_⟩:=WS dv f104 s.2.2.2.2.2.1 (fun p=>decide ((64:Int)<(p.2.1.length:Int))) (fun x _=>rfl) h
 have e1:tp s.2.2.2.2.2.1=some (decide ((0:Int)≤i)):=by
  unfold tp
  have:yU s.2.2.2.2.2.1=some i:=hi
  rw[this];rfl
 dsimp only
 by_cases h1:(8:Int)<(s.1.length:Int)
 ·rw[db h1];exact no _ rfl
 ·rw[aD (show¬decide ((8:Int)<(s.1.length:Int))=true by simpa using h1)]
  by_cases h2:(64:Int)<(s.2.1.length:Int)
  ·rw[db h2];exact no _ rfl
  ·rw[aD (show¬decide ((64:Int)<(s.2.1.length:Int))=true by simpa using h2)]
   by_cases h3:(16:Int)<(s.2.2.1.length:Int)
   ·rw[db h3];exact no _ rfl
   ·rw[aD (show¬decide ((16:Int)<(s.2.2.1.length:Int))=true by simpa using h3)]
    have yes:∀y:Zo,(∃r,y=some r)→∃r,y=some r∧(r=true→s.2.2.1.length≤16):=fun y ⟨r,hr⟩=>⟨r,hr,fun _=>by omega⟩
    apply yes
    refine fq ?_ fun v=>?_
    ·repeat' (first|exact⟨_,rfl⟩|split)
    ·cases v with
     |true=>exact⟨_,rfl⟩
     |false=>rw[aD (by decide),e1];exact⟨_,rfl⟩
theorem BU(s:cH)(h:s.2.1.length≤aG):∃r,yX s.2.1 (s,())=some r∧(r=true→∀u∈s.2.1,f52 (s,()) u=some true):=by
 have hp:∀x∈s.2.1,pX x (s,())=some (!((f52 (s,()) x).getD false),(s,())):=fun x _=>by
  obtain⟨r,hr⟩:=pj (s,()) x
  unfold pX
  rw[hr];rfl
 obtain⟨i,hi,him⟩:=LJ aS pX s.2.1 (s,()) _ hp h
 have e:yV s.2.1 (s,())=some (i,(s,())):=hi
 unfold yX yW
 rw[e]
 refine⟨_,rfl,fun hr x hx=>?_⟩
 obtain⟨r,hr2⟩:=pj (s,()) x
 cases r with
 |true=>exact hr2
 |
  false=>
  have:0≤i:=him.2 ⟨x,hx,by rw[hr2];rfl⟩
  simp[this] at hr
theorem zS(s:cH)(hs:SW s):∃r,ze s.2.2.1 (s,())=some r∧(r=true→∀x∈s.2.2.1,(1≤x.2.2.2.2.1.length∧(nth bO x.2.2.2.2.1 (0:Int)).2.1.1=3)∧∀f∈x.2.2.2.2.1,f114 (s,()) f.2.1=some true):=by
 have hp:∀x∈s.2.2.1,pY x (s,())=some (!((f54 (s,()) x).getD false),(s,())):=fun x hx=>by
  obtain⟨r,hr,_⟩:=sG (s,()) x (hs.nb x hx).1 (hs.nb x hx).2
  unfold pY
  rw[hr];rfl
 obtain⟨i,hi,him⟩:=LJ aU pY s.2.2.1 (s,()) _ hp hs.dT
 have e:zb s.2.2.1 (s,())=some (i,(s,())):=hi
 unfold ze zd
 rw[e]
 refine⟨_,rfl,fun hr x hx=>?_⟩
 obtain⟨r,hr2,hm⟩:=sG (s,()) x (hs.nb x hx).1 (hs.nb x hx).2
 cases r with
 |true=>exact hm rfl
 |
  false=>
  have:0≤i:=him.2 ⟨x,hx,by rw[hr2];rfl⟩
  simp[this] at hr
theorem D8(s:cH)(hs:SW s)(hU:UO s):∃r,zi s.2.2.2.1 (s,())=some r∧(r=true→∀x∈s.2.2.2.1,RK ((s,()),(x,()))):=by
 have hk:=fun x(hx:x∈s.2.2.2.1)=>HE ((s,()),(x,())) hs.nb hU (hs.rl x hx).1 (hs.rl x hx).2.1 (hs.rl x hx).2.2
 have hp:∀x∈s.2.2.2.1,pZ x (s,())=some (!((f50 ((s,()),(x,()))).getD false),(s,())):=fun x hx=>by
  obtain⟨r,hr,_⟩:=hk x hx
  unfold pZ Dg
  rw[hr];rfl
 obtain⟨i,hi,him⟩:=LJ bQ pZ s.2.2.2.1 (s,()) _ hp hs.rules
 have e:zg s.2.2.2.1 (s,())=some (i,(s,())):=hi
 unfold zi zh
 rw[e]
 refine⟨_,rfl,fun hr x hx=>?_⟩
 obtain⟨r,hr2,hm⟩:=hk x hx
 cases r with
 |true=>exact hm rfl
 |
  false=>
  have:0≤i:=him.2 ⟨x,hx,by rw[hr2];rfl⟩
  simp[this] at hr
theorem wa(s:cH)(hs:SW s):∃r,zm s.2.2.2.2.2.1 (s,())=some r:=by
 have hp:∀x∈s.2.2.2.2.2.1,qa x (s,())=some (!((f57 (s,()) x).getD false),(s,())):=fun x hx=>by
  obtain⟨r,hr⟩:=wL (s,()) x (hs.may x hx)
  unfold qa
  rw[hr];rfl
 obtain⟨i,hi,_⟩:=LJ dv qa s.2.2.2.2.2.1 (s,()) _ hp hs.fu
 have e:zj s.2.2.2.2.2.1 (s,())=some (i,(s,())):=hi
 unfold zm zl
 rw[e];exact⟨_,rfl⟩
theorem xT(s:cH)(hs:SW s):∃r,f31 s=some r∧(r=0→TG s):=by
 have no:∀(y:ZU)(z:Int),z≠0→y=some z→∃r,y=some r∧(r=0→TG s):=fun y z hz hy=>⟨z,hy,fun h=>absurd h hz⟩
 unfold f31
 obtain⟨b,hb,hbm⟩:=D7 s hs.fu
 rw[hb,aK]
 cases b with
 |false=>rw[aA (by decide)];exact no _ 2 (by decide) rfl
 |
  true=>
  rw[aD (by decide)]
  obtain⟨b1,hb1,hm1⟩:=BU s hs.nn
  rw[hb1,aK]
  cases b1 with
  |false=>exact no _ 120 (by decide) rfl
  |
   true=>
   rw[aD (by decide)]
   obtain⟨b2,hb2,hm2⟩:=zS s hs
   rw[hb2,aK]
   cases b2 with
   |false=>exact no _ 120 (by decide) rfl
   |
    true=>
    rw[aD (by decide)]
    have hU:UO s:=fun x hx f hf h1=>sE ((hm2 rfl x hx).2 f hf) h1
    obtain⟨b3,hb3,hm3⟩:=D8 s hs hU
    rw[hb3,aK]
    cases b3 with
    |false=>exact no _ 120 (by decide) rfl
    |
     true=>
     rw[aD (by decide)]
     obtain⟨b4,hb4⟩:=wa s hs
     rw[hb4,aK,aK]
     cases b4 with
     |false=>exact no _ 120 (by decide) rfl
     |true=>exact⟨0,rfl,fun _=>⟨hbm rfl,fun x hx=>(hm2 rfl x hx).1.1,fun x hx=>(hm2 rfl x hx).2,hU,hm3 rfl,fun x hx=>(hm2 rfl x hx).1.2,hm1 rfl⟩⟩
structure SS(s:cH):Prop where
 nR:s.1.length≤aG
 nn:s.2.1.length≤aG
 dT:s.2.2.1.length≤aG
 rules:s.2.2.2.1.length≤aG
 je:s.2.2.2.2.1.length≤aG
 fu:s.2.2.2.2.2.1.length≤aG
 fields:∀x∈s.2.2.1,x.2.2.2.2.1.length≤aG∧∀f∈x.2.2.2.2.1,(dJ f.2.1).length≤aG
 zT:∀x∈s.2.2.1,x.2.2.2.2.2.1.length≤aG∧∀d∈x.2.2.2.2.2.1,d.1.length≤aG∧d.2.2.1.length≤aG
 rl:∀r∈s.2.2.2.1,r.2.2.1.length≤aG∧r.2.2.2.1.length≤aG∧r.2.2.2.2.1.length≤aG
 mv:∀c∈s.2.2.2.2.1,c.2.2.2.2.1.length≤aG
 may:∀p∈s.2.2.2.2.2.1,p.2.1.length≤aG
theorem Sm(x y:Zn)(hl:y.length≤aG):∃r,f63 x y=some r:=KQ .str (fun a b=>decide (a=b)) x y fun e=>e▸hl
theorem adX(x y:Zf)(hl:y.length≤aG):∃r,f37 x y=some r:=KQ (.int .i64) (fun a b=>decide (a=b)) x y fun e=>e▸hl
theorem wc(a b:Cy)(h:(dJ b.2.1).length≤aG):∃r,f126 a b=some r:=by
 obtain⟨q,hq⟩:=Sm (dJ a.2.1) (dJ b.2.1) h
 unfold f126
 refine fq ?_ fun v=>⟨v,rfl⟩
 unfold dJ at hq
 simp only[hq,aK]
 repeat' (first|exact⟨_,rfl⟩|split)
theorem sR(a b:uI)(h:b.1.length≤aG)(h2:b.2.2.1.length≤aG):∃r,f128 a b=some r:=by
 obtain⟨q,hq⟩:=Sm a.1 b.1 h
 obtain⟨q2,hq2⟩:=adX a.2.2.1 b.2.2.1 h2
 unfold f128
 refine fq ?_ fun v=>⟨v,rfl⟩
 simp only[hq,hq2,aK]
 repeat' (first|exact⟨_,rfl⟩|split)
theorem sS(a b:lu)(h1:b.2.2.2.2.1.length≤aG∧∀f∈b.2.2.2.2.1,(dJ f.2.1).length≤aG)(h2:b.2.2.2.2.2.1.length≤aG∧∀d∈b.2.2.2.2.2.1,d.1.length≤aG∧d.2.2.1.length≤aG):∃r,f66 a b=some r:=by
 obtain⟨q,hq⟩:∃r,zH a.2.2.2.2.1 b.2.2.2.2.1=some r:=SU bO f126 _ _ (fun x _ y hy=>wc x y (h1.2 y hy)) fun e=>e▸h1.1
 obtain⟨q2,hq2⟩:∃r,zJ a.2.2.2.2.2.1 b.2.2.2.2.2.1=some r:=SU eP f128 _ _ (fun x _ y hy=>sR x y (h2.2 y hy).1 (h2.2 y hy).2) fun e=>e▸h2.1
 unfold f66
 refine fq ?_ fun v=>⟨v,rfl⟩
 simp only[hq,hq2,aK]
 repeat' (first|exact⟨_,rfl⟩|split)
theorem wM(a b:iA)(h:b.2.2.1.length≤aG∧b.2.2.2.1.length≤aG∧b.2.2.2.2.1.length≤aG):∃r,f68 a b=some r:=by
 obtain⟨q1,hq1⟩:∃r,f129 a.2.2.1 b.2.2.1=some r:=KQ aL (fun x y=>aY aL x y) _ _ fun e=>e▸h.1
 obtain⟨q2,hq2⟩:∃r,f130 a.2.2.2.1 b.2.2.2.1=some r:=KQ aQ (fun x y=>aY aQ x y) _ _ fun e=>e▸h.2.1
 obtain⟨q3,hq3⟩:∃r,f131 a.2.2.2.2.1 b.2.2.2.2.1=some r:=KQ aZ (fun x y=>aY aZ x y) _ _ fun e=>e▸h.2.2
 unfold f68
 refine fq ?_ fun v=>⟨v,rfl⟩
 simp only[hq1,hq2,hq3,aK]
 repeat' (first|exact⟨_,rfl⟩|split)
theorem rJ(a b:qR)(h:b.2.2.2.2.1.length≤aG):∃r,f70 a b=some r:=by
 obtain⟨q1,hq1⟩:∃r,f132 a.2.2.2.2.1 b.2.2.2.2.1=some r:=KQ aS (fun x y=>aY aS x y) _ _ fun e=>e▸h
 unfold f70
 refine fq ?_ fun v=>⟨v,rfl⟩
 simp only[hq1,aK]
 repeat' (first|exact⟨_,rfl⟩|split)
theorem rK(a b:nU)(h:b.2.1.length≤aG):∃r,f72 a b=some r:=by
 obtain⟨q1,hq1⟩:∃r,f133 a.2.1 b.2.1=some r:=KQ eQ (fun x y=>aY eQ x y) _ _ fun e=>e▸h
 unfold f72
 refine fq ?_ fun v=>⟨v,rfl⟩
 simp only[hq1,aK]
 repeat' (first|exact⟨_,rfl⟩|split)
theorem BV(a s:cH)(hs:SS s):∃r,f36 a s=some r:=by
 obtain⟨q1,hq1⟩:=Sm a.1 s.1 hs.nR
 obtain⟨q2,hq2⟩:∃r,f64 a.2.1 s.2.1=some r:=KQ aS (fun x y=>aY aS x y) _ _ fun e=>e▸hs.nn
 obtain⟨q3,hq3⟩:∃r,DL a.2.2.1 s.2.2.1=some r:=SU aU f66 _ _ (fun x _ y hy=>sS x y (hs.fields y hy) (hs.zT y hy)) fun e=>e▸hs.dT
 obtain⟨q4,hq4⟩:∃r,Da a.2.2.2.1 s.2.2.2.1=some r:=SU bQ f68 _ _ (fun x _ y hy=>wM x y (hs.rl y hy)) fun e=>e▸hs.rules
 obtain⟨q5,hq5⟩:∃r,Db a.2.2.2.2.1 s.2.2.2.2.1=some r:=SU fA f70 _ _ (fun x _ y hy=>rJ x y (hs.mv y hy)) fun e=>e▸hs.je
 obtain⟨q6,hq6⟩:∃r,Dc a.2.2.2.2.2.1 s.2.2.2.2.2.1=some r:=SU dv f72 _ _ (fun x _ y hy=>rK x y (hs.may y hy)) fun e=>e▸hs.fu
 unfold f36
 refine fq ?_ fun v=>⟨v,rfl⟩
 simp only[hq1,hq2,hq3,hq4,hq5,hq6,aK]
 repeat' (first|exact⟨_,rfl⟩|split)
theorem we(a b:Int)(h:0≤b):∃r,f211 a b=some r:=⟨_,aA h⟩
theorem UX(m:Int)(d:uI)(l:Zf)(hl:l.length≤aG):∀(n i:Nat)(e:Int),l.length -i<n→i≤l.length→(∃e',nK n (m,e,l,(l.length:Int),(i:Int),d)=some (.brk (m,e',d)))∨nK n (m,e,l,(l.length:Int),(i:Int),d)=some (.ret false):=by
 intro n
 have hB:=hB
 induction n with
 |zero=>intro i e h;omega
 |
  succ n ih=>
  intro i e hn hi
  unfold nK at ih ⊢
  rw[aO]
  generalize aM _ n=rec at ih ⊢
  dsimp only
  by_cases h:i<l.length
  ·rw[db (by omega),fP i,aA (show(i:Int)<(l.length:Int) by omega),bG (by omega)]
   by_cases h0:nth (.int .i64) l (i:Int)<(0:Int)
   ·rw[db h0];exact Or.inr rfl
   ·rw[aD (show¬decide (nth (.int .i64) l (i:Int)<(0:Int))=true by simpa using h0)]
    obtain⟨q,hq⟩:=we e (nth (.int .i64) l (i:Int)) (Int.not_lt.1 h0)
    rw[hq]
    have key:∀v:Bool,(∃e',(if v=true then(cw (some false)) else(if 0≤(nth (.int .i64) l (i:Int)) then(rec (m,iO .or .u64 e (IntKind.u64.wrap ((1:Int)*2^(min (Int.toNat (nth (.int .i64) l (i:Int))) 64))),l,(l.length:Int),((i+1:Nat):Int),d)) else none))=some (.brk (m,e',d)))∨(if v=true then(cw (some false)) else(if 0≤(nth (.int .i64) l (i:Int)) then(rec (m,iO .or .u64 e (IntKind.u64.wrap ((1:Int)*2^(min (Int.toNat (nth (.int .i64) l (i:Int))) 64))),l,(l.length:Int),((i+1:Nat):Int),d)) else none))=some (.ret false):=fun v=>by
     cases v with
     |true=>exact Or.inr rfl
     |
      false=>
      rw[aD (by decide),aA (Int.not_lt.1 h0)]
      exact ih (i+1) _ (by omega) (by omega)
    split
    ·exact key true
    ·exact key q
  ·rw[gY (by omega)]
   exact Or.inl ⟨e,rfl⟩
theorem zU(d:uI)(m:Int)(hl:d.2.2.1.length≤aG):∃r,f118 d m=some r:=by
 unfold f118
 have e:=UX m d d.2.2.1 hl (Int.toNat (List.length d.2.2.1:Int)+1) 0 0 (by omega) (by omega)
 rcases e with⟨e',e⟩|e
 ·have h:nK (Int.toNat (List.length d.2.2.1:Int)+1) (m,(0:Int),d.2.2.1,(List.length d.2.2.1:Int),(0:Int),d)=some (.brk (m,e',d)):=e
  rw[h,aJ]
  dsimp only
  refine fq ?_ fun v=>⟨v,rfl⟩
  by_cases h0:0≤d.2.2.2.1
  ·obtain⟨q,hq⟩:=we e' d.2.2.2.1 h0
   rw[hq]
   repeat' (first|exact⟨_,rfl⟩|split)
  ·rw[aD (show¬decide ((0:Int)≤d.2.2.2.1)=true by simpa using h0)]
   repeat' (first|exact⟨_,rfl⟩|split)
 ·have h:nK (Int.toNat (List.length d.2.2.1:Int)+1) (m,(0:Int),d.2.2.1,(List.length d.2.2.1:Int),(0:Int),d)=some (.ret false):=e
  rw[h,fv]
  exact⟨_,rfl⟩
theorem UY(x:lu)(l:CA)(hl:l.length≤aG)(hd:∀d∈l,d.2.2.1.length≤aG):∀(n i:Nat),l.length -i<n→i≤l.length→∃r,aI (U:=Unit) (vn n (l,(l.length:Int),(i:Int),x)) (fun _=>some (0:Int))=some r:=by
 intro n
 have hB:=hB
 induction n with
 |zero=>intro i h;omega
 |
  succ n ih=>
  intro i hn hi
  unfold vn at ih ⊢
  rw[aO]
  generalize aM _ n=rec at ih ⊢
  dsimp only
  by_cases h:i<l.length
  ·obtain⟨r,hr⟩:=zU l[i] (x.2.2.2.2.1.length:Int) (hd _ (kg h))
   rw[db (by omega),fP i,aA (show(i:Int)<(l.length:Int) by omega),ew (t:=eP) h,bG (by omega),hr,aK]
   cases r with
   |false=>exact⟨_,rfl⟩
   |true=>rw[aD (by decide)];exact ih (i+1) (by omega) (by omega)
  ·rw[gY (by omega)]
   exact⟨_,rfl⟩
theorem zV(x:lu)(hl:x.2.2.2.2.2.1.length≤aG)(hd:∀d∈x.2.2.2.2.2.1,d.2.2.1.length≤aG):∃r,f58 x=some r:=by
 unfold f58
 have h4:∃r,aI (U:=Unit) (vn (Int.toNat (List.length x.2.2.2.2.2.1:Int)+1) (x.2.2.2.2.2.1,(List.length x.2.2.2.2.2.1:Int),(0:Int),x)) (fun _=>some (0:Int))=some r:=UY x _ hl hd _ 0 (by omega) (by omega)
 have h2:∀v:Bool,∃r,aI (U:=lu) (if v=true then(cw (some (130:Int))) else(some (.brk x))) (fun v1=>aI (U:=Unit) (vn (Int.toNat (List.length v1.2.2.2.2.2.1:Int)+1) (v1.2.2.2.2.2.1,(List.length v1.2.2.2.2.2.1:Int),(0:Int),v1)) fun _=>some (0:Int))=some r:=fun v=>by
  cases v with
  |true=>exact⟨_,rfl⟩
  |false=>exact h4
 split
 ·exact h2 true
 ·split
  ·exact h2 true
  ·exact h2 _
theorem wg(s:cH)(hs:SS s):∃r,f32 s=some r:=by
 have hB:=hB
 have key:∀(n i:Nat),s.2.2.1.length -i<n→i≤s.2.2.1.length→∃r,aI (U:=Unit) (Dj n (s.2.2.1,(s.2.2.1.length:Int),(i:Int))) (fun _=>some (0:Int))=some r:=by
  intro n
  have hl:=hs.dT
  induction n with
  |zero=>intro i h;omega
  |
   succ n ih=>
   intro i hn hi
   unfold Dj at ih ⊢
   rw[aO]
   generalize aM _ n=rec at ih ⊢
   dsimp only
   by_cases h:i<s.2.2.1.length
   ·have hd:=hs.zT _ (kg h)
    obtain⟨r,hr⟩:=zV s.2.2.1[i] hd.1 fun d hdm=>(hd.2 d hdm).2
    rw[db (by omega),fP i,aA (show(i:Int)<(s.2.2.1.length:Int) by omega),ew (t:=aU) h,bG (by omega),hr,aK]
    split
    ·exact⟨_,rfl⟩
    ·exact ih (i+1) (by omega) (by omega)
   ·rw[gY (by omega)]
    exact⟨_,rfl⟩
 exact key _ 0 (by omega) (by omega)
theorem HF(l:Zf)(m:Int)(hl:l.length≤1000000):∃b d,CI l m []=some (b,d):=by
 have hB:=hB
 have key:∀(n i:Nat)(d:Zu),l.length -i<n→i≤l.length→d.length≤i→∃b d',aI (U:=Zf×Int×Zu) (qU n (l,m,l,(l.length:Int),(i:Int),d)) (fun u=>match u with|⟨a,b,c⟩=>some (decide ((List.length a:Int)=b),c))=some (b,d'):=by
  intro n
  induction n with
  |zero=>intro i d h;omega
  |
   succ n ih=>
   intro i d hn hi hd
   unfold qU at ih ⊢
   rw[aO]
   generalize aM _ n=rec at ih ⊢
   dsimp only
   by_cases h:i<l.length
   ·rw[db (by omega),fP i,aA (show(i:Int)<(l.length:Int) by omega)]
    split
    ·exact⟨_,_,rfl⟩
    ·rw[aA (by omega),bG (by omega)]
     exact ih (i+1) _ (by omega) (by omega) (dp (eM (kt:=.int .i64)) (by omega))
   ·rw[gY (by omega)]
    exact⟨_,_,rfl⟩
 exact key _ 0 [] (by omega) (by omega) (by simp)
theorem rI.len{s:cH}{l:Zf}(h:rI s l):l.length≤s.2.2.1.length:=fU _ l h.oB fun x hx=>(h.all x).1 hx
theorem TG.sb{s:cH}(h:TG s)(hs:SW s):SB s:=⟨by have:=h.many;omega,hs.rules,fun r hr=>(hs.rl r hr).1⟩
theorem HG(s:cH)(hs:SW s):∃r,f59 s=some r∧(r=0→TG s):=by
 unfold f59
 obtain⟨r,hr,hm⟩:=xT s hs
 rw[hr,aK]
 by_cases h:r=0
 ·rw[aD (by simp[h])]
  have hT:=hm h
  obtain⟨l,ok,e,ho,_⟩:=BT (hT.sb hs)
  rw[ho,aK]
  have yes:∀y:ZU,(∃z,y=some z)→∃z,y=some z∧(z=0→TG s):=fun y ⟨z,hz⟩=>⟨z,hz,fun _=>hT⟩
  apply yes
  dsimp only
  repeat' (first|exact⟨_,rfl⟩|split)
 ·rw[aA (by simp[h])]
  exact⟨r,rfl,fun h'=>absurd h' h⟩
theorem D9(s:cH)(hs:SW s):∃r,f33 s=some r∧(r=0→TG s∧∃l,f35 s=some (l,true,0)∧rI s l):=by
 unfold f33
 obtain⟨r,hr,hm⟩:=HG s hs
 rw[hr,aK]
 by_cases h:r=0
 ·rw[aD (by simp[h])]
  have hT:=hm h
  obtain⟨l,ok,e,ho,hk⟩:=BT (hT.sb hs)
  rw[ho,aK]
  dsimp only
  by_cases he:e=0
  ·subst he
   rw[aD (by decide)]
   cases ok with
   |false=>rw[aA (by decide)];exact⟨141,rfl,fun h'=>absurd h' (by decide)⟩
   |
    true=>
    rw[aD (by decide)]
    have hR:=hk rfl rfl fun r hr=>⟨(hT.rules r hr).h0,(hT.rules r hr).h1⟩
    obtain⟨b,d,hw⟩:=HF l (s.2.2.1.length:Int) (by have:=hR.len;have:=hT.many;omega)
    rw[hw,aK]
    have yes:∀y:ZU,(∃z,y=some z)→∃z,y=some z∧(z=0→TG s∧∃l',some (l,true,(0:Int))=some (l',true,0)∧rI s l'):=fun y ⟨z,hz⟩=>⟨z,hz,fun _=>⟨hT,l,rfl,hR⟩⟩
    apply yes
    dsimp only
    repeat' (first|exact⟨_,rfl⟩|split)
  ·rw[aA (by simp[he])]
   exact⟨e,rfl,fun h'=>absurd h' he⟩
 ·rw[aA (by simp[h])]
  exact⟨r,rfl,fun h'=>absurd h' h⟩
theorem rL(s:cH)(hN:NB s)(a b v:Int):∃r,f152 s a b v=some r:=by
 unfold f152
 rcases k7 (s,()) a b with⟨hi,e⟩|⟨_,y,e⟩
 ·rw[e,aK]
  dsimp only
  rw[aA rfl]
  have hm:=hi.mem
  obtain⟨q,hq⟩:=ph (s,()) (nth bO (cN s a) b).2.1 ((hN _ hm.1).2 _ hm.2)
  refine fq ?_ fun v=>⟨v,rfl⟩
  have hq':f114 (s,()) (nth bO (cN (s,()).1 a) b).2.1=some q:=hq
  rw[hq',aK]
  repeat' (first|exact⟨_,rfl⟩|split)
 ·rw[e,aK]
  exact⟨_,rfl⟩
theorem xU(s:cH)(hN:NB s)(a:Int):∃r,f119 s a=some r∧(r=true→0≤a∧a<(s.2.2.1.length:Int)):=by
 have hB:=hB
 have no:∀y:Zo,y=some false→∃r,y=some r∧(r=true→0≤a∧a<(s.2.2.1.length:Int)):=fun y hy=>⟨false,hy,fun h=>(by cases h)⟩
 unfold f119
 by_cases h0:a<0
 ·rw[db h0];exact no _ rfl
 ·rw[aD (show¬decide (a<(0:Int))=true by simpa using h0)]
  by_cases h1:(s.2.2.1.length:Int)≤a
  ·rw[cU h1];exact no _ rfl
  ·rw[dZ h1,aK,aD (by decide),aJ]
   dsimp only
   rw[aA (Int.not_lt.1 h0),aA (Int.not_le.1 h1)]
   have yes:∀y:Zo,(∃z,y=some z)→∃z,y=some z∧(z=true→0≤a∧a<(s.2.2.1.length:Int)):=fun y ⟨z,hz⟩=>⟨z,hz,fun _=>⟨Int.not_lt.1 h0,Int.not_le.1 h1⟩⟩
   apply yes
   have hl:=(hN _ (dw (t:=aU) (l:=s.2.2.1) (a:=a) (Int.not_lt.1 h0) (Int.not_le.1 h1))).1
   generalize (nth aU s.2.2.1 a).2.2.2.2.1=l at hl ⊢
   have key:∀(n i:Nat),l.length -i<n→i≤l.length→nF n (a,l,l,(l.length:Int),(i:Int),s)=some (.brk l)∨nF n (a,l,l,(l.length:Int),(i:Int),s)=some (.ret false):=by
    intro n
    induction n with
    |zero=>intro i h;omega
    |
     succ n ih=>
     intro i hn hi
     unfold nF at ih ⊢
     rw[aO]
     generalize aM _ n=rec at ih ⊢
     dsimp only
     by_cases h:i<l.length
     ·rw[db (by omega),fP i,aA (show(i:Int)<(l.length:Int) by omega),bG (by omega)]
      obtain⟨q,hq⟩:=rL s hN a (i:Int) (nth bO l (i:Int)).2.1.2.1
      rw[hq,aK]
      cases q with
      |false=>exact Or.inr rfl
      |true=>rw[aD (by decide)];exact ih (i+1) (by omega) (by omega)
     ·rw[gY (by omega)]
      exact Or.inl rfl
   have e:=key (Int.toNat (List.length l:Int)+1) 0 (by omega) (by omega)
   rcases e with e|e
   ·have e':nF (Int.toNat (List.length l:Int)+1) (a,l,l,(List.length l:Int),(0:Int),s)=some (.brk l):=e
    rw[e',aJ]
    refine fq ?_ fun v=>⟨v,rfl⟩
    by_cases hp:(0:Int)<(l.length:Int)
    ·rw[db hp,aA hp];exact⟨_,rfl⟩
    ·rw[aD (show¬decide ((0:Int)<(l.length:Int))=true by simpa using hp)];exact⟨_,rfl⟩
   ·have e':nF (Int.toNat (List.length l:Int)+1) (a,l,l,(List.length l:Int),(0:Int),s)=some (.ret false):=e
    rw[e',fv];exact⟨_,rfl⟩
theorem Kv(a b:dF)(n:Int):∃r,f120 a b n=some r:=by
 unfold f120
 by_cases h1:a.1=b.1
 ·rw[aD (by simp[h1])]
  by_cases e1:a.1=1
  ·rw[db e1,aK,aA rfl]
   repeat' (first|exact⟨_,rfl⟩|split)
  ·rw[aD (show¬decide (a.1=(1:Int))=true by simpa using e1)]
   by_cases e2:a.1=2
   ·rw[cU e2,aK,aA rfl]
    repeat' (first|exact⟨_,rfl⟩|split)
   ·rw[dZ e2,aK,aD (by decide),aJ]
    dsimp only
    refine fq ?_ fun v=>⟨v,rfl⟩
    repeat' (first|exact⟨_,rfl⟩|split)
 ·rw[aA (by simp[h1])];exact⟨_,rfl⟩
theorem UZ(l m:ZA)(k:Zq)(hk:k.length≤aG):∀(n i:Nat)(N O:List Bool),k.length -i<n→i≤k.length→N.length=l.length→O.length=m.length→
 ∃r,aI (U:=Unit) (uL n (l,m,k,(k.length:Int),(i:Int),N,O)) (fun _=>some true)=some r:=by
 intro n
 have hB:=hB
 induction n with
 |zero=>intro i N O h;omega
 |
  succ n ih=>
  intro i N O hn hi hN hO
  unfold uL at ih ⊢
  rw[aO]
  generalize aM _ n=rec at ih ⊢
  dsimp only
  by_cases h:i<k.length
  ·rw[db (by
    omega),fP i,aA (show(i:Int)<(k.length:Int) by omega)]
   generalize nth aS k (i:Int)=mv
   by_cases h1:mv.2.2.2.1<(1:Int)
   ·rw[db h1];exact⟨_,rfl⟩
   ·rw[aD (show¬decide (mv.2.2.2.1<(1:Int))=true by simpa using h1)]
    by_cases h2:(l.length:Int)≤mv.2.2.2.1
    ·rw[db h2];exact⟨_,rfl⟩
    ·rw[aD (show¬decide ((l.length:Int)≤mv.2.2.2.1)=true by simpa using h2)]
     by_cases h3:mv.2.2.1<(1:Int)
     ·rw[db h3];exact⟨_,rfl⟩
     ·rw[aD (show¬decide (mv.2.2.1<(1:Int))=true by simpa using h3)]
      by_cases h4:(m.length:Int)≤mv.2.2.1
      ·rw[db h4];exact⟨_,rfl⟩
      ·rw[aD (show¬decide ((m.length:Int)≤mv.2.2.1)=true by simpa using h4)]
       have p0:(0:Int)≤mv.2.2.2.1:=Int.le_trans (by decide) (Int.not_lt.1 h1)
       have p1:mv.2.2.2.1<(l.length:Int):=Int.not_le.1 h2
       have q0:(0:Int)≤mv.2.2.1:=Int.le_trans (by decide) (Int.not_lt.1 h3)
       have q1:mv.2.2.1<(m.length:Int):=Int.not_le.1 h4
       have p2:mv.2.2.2.1<(N.length:Int):=by rw[hN];exact p1
       have q2:mv.2.2.1<(O.length:Int):=by rw[hO];exact q1
       rw[aA p0,aA p2]
       have key:∀v:Bool,∃r,aI (U:=Unit) (aI (U:=ZA×ZA×Zq×Int×Int×gv×List Bool×List Bool) (if v=true then(cw (cw (some false))) else(some (.brk (l,m,k,(k.length:Int),(i:Int),mv,N,O)))) fun u=>match u with|⟨d,e,f,g,h,a,b,c⟩=>if 0≤a.2.2.2.1 then(if a.2.2.2.1<(List.length b:Int) then(if 0≤a.2.2.1 then(if a.2.2.1<(List.length c:Int) then(if 0≤a.2.2.2.1 then(if a.2.2.2.1<(List.length d:Int) then(if 0≤a.2.2.1 then(if a.2.2.1<(List.length e:Int) then(Option.bind (f120 (((nth bO d a.2.2.2.1).2).1) (((nth bO e a.2.2.1).2).1) a.2.2.2.2.1) fun y12=>if(!y12)=true then(cw (some false)) else(rec (d,e,f,g,bB (h+(1:Int)),List.set b (Int.toNat a.2.2.2.1) true,List.set c (Int.toNat a.2.2.1) true))) else none) else none) else none) else none) else none) else none) else none) else none) (fun _=>some true)=some r:=fun v=>by
        cases v with
        |true=>exact⟨_,rfl⟩
        |
         false=>
         rw[aD (by decide),aJ]
         dsimp only
         rw[aA p0,aA p2,aA q0,aA q2,aA p0,aA p1,aA q0,aA q1]
         obtain⟨z,hz⟩:=Kv ((nth bO l mv.2.2.2.1).2).1 ((nth bO m mv.2.2.1).2).1 mv.2.2.2.2.1
         rw[hz,aK]
         cases z with
         |false=>exact⟨_,rfl⟩
         |
          true=>
          rw[aD (by decide),bG (by omega)]
          exact ih (i+1) _ _ (by omega) (by omega) (by rw[bU];exact hN) (by rw[bU];exact hO)
       split
       ·exact key true
       ·exact key _
  ·rw[gY (by omega)]
   exact⟨_,rfl⟩
theorem Ea(s:cH)(hN:NB s)(c:qR)(hc:c.2.2.2.2.1.length≤aG):∃r,f61 s c=some r:=by
 have hB:=hB
 unfold f61
 by_cases h0:c.2.2.1=c.2.2.2.1
 ·rw[db h0];exact⟨_,rfl⟩
 ·rw[aD (show¬decide (c.2.2.1=c.2.2.2.1)=true by simpa using h0)]
  obtain⟨r1,e1,m1⟩:=xU s hN c.2.2.1
  rw[e1,aK]
  cases r1 with
  |false=>exact⟨_,rfl⟩
  |
   true=>
   rw[aD (by decide)]
   obtain⟨r2,e2,m2⟩:=xU s hN c.2.2.2.1
   rw[e2,aK,aK]
   cases r2 with
   |false=>exact⟨_,rfl⟩
   |
    true=>
    rw[aD (by decide),aJ]
    dsimp only
    have a1:=m1 rfl
    have a2:=m2 rfl
    rw[aA a1.1,aA a1.2,aA a2.1,aA a2.2]
    have l1:=(hN _ (dw (t:=aU) (l:=s.2.2.1) a1.1 a1.2)).1
    have l2:=(hN _ (dw (t:=aU) (l:=s.2.2.1) a2.1 a2.2)).1
    generalize (nth aU s.2.2.1 c.2.2.1).2.2.2.2.1=l at l1 ⊢
    generalize (nth aU s.2.2.1 c.2.2.2.1).2.2.2.2.1=m at l2 ⊢
    have h8:∃r,aI (U:=Unit) (uL (Int.toNat (List.length c.2.2.2.2.1:Int)+1) (l,m,c.2.2.2.2.1,(List.length c.2.2.2.2.1:Int),(0:Int),List.replicate (Int.toNat (List.length l:Int)) false,List.replicate (Int.toNat (List.length m:Int)) false)) (fun _=>some true)=some r:=
     UZ l m c.2.2.2.2.1 hc _ 0 _ _ (by omega) (by omega) (by rw[l0,fb]) (by rw[l0,fb])
    have key:∀v:Bool,∃r,aI (U:=ZA×ZA×qR) (if v=true then(cw (some false)) else(some (.brk (l,m,c)))) (fun u=>match u with|⟨c,d,e⟩=>if 0≤(List.length c:Int) then(if(List.length c:Int)≤(List.length c:Int) then(if(List.length c:Int)*(1:Int)≤(aG:Int) then(if 0≤(List.length d:Int) then(if(List.length d:Int)≤(List.length d:Int) then(if(List.length d:Int)*(1:Int)≤(aG:Int) then(aI (U:=Unit) (uL (Int.toNat (List.length e.2.2.2.2.1:Int)+1) (c,d,e.2.2.2.2.1,(List.length e.2.2.2.2.1:Int),(0:Int),List.replicate (Int.toNat (List.length c:Int)) false,List.replicate (Int.toNat (List.length d:Int)) false)) fun _=>some true) else none) else none) else none) else none) else none) else none)=some r:=fun v=>by
     cases v with
     |true=>exact⟨_,rfl⟩
     |
      false=>
      rw[aD (by decide),aJ]
      dsimp only
      rw[fP _,aA (mV _),aA (by omega),fP _,aA (mV _),aA (by omega)]
      exact h8
    split
    ·exact key true
    ·exact key _
theorem Eb(s:cH)(hN:NB s)(hs:SS s):∃r,f34 s=some r:=by
 have hB:=hB
 have hl:=hs.je
 have key:∀(n i:Nat),s.2.2.2.2.1.length -i<n→i≤s.2.2.2.2.1.length→∃r,aI (U:=Unit) (CJ n (s.2.2.2.2.1,(s.2.2.2.2.1.length:Int),(i:Int),s)) (fun _=>some (0:Int))=some r:=by
  intro n
  induction n with
  |zero=>intro i h;omega
  |
   succ n ih=>
   intro i hn hi
   unfold CJ at ih ⊢
   rw[aO]
   generalize aM _ n=rec at ih ⊢
   dsimp only
   by_cases h:i<s.2.2.2.2.1.length
   ·obtain⟨r,hr⟩:=Ea s hN s.2.2.2.2.1[i] (hs.mv _ (kg h))
    rw[db (by omega),fP i,aA (show(i:Int)<(s.2.2.2.2.1.length:Int) by omega),ew (t:=fA) h,bG (by omega),hr,aK]
    cases r with
    |false=>exact⟨_,rfl⟩
    |true=>rw[aD (by decide)];exact ih (i+1) (by omega) (by omega)
   ·rw[gY (by omega)]
    exact⟨_,rfl⟩
 exact key _ 0 (by omega) (by omega)
theorem HH(l:Zn)(hl:l.length≤aG):∃M b,VR l.length M∧zZ l=some (some M,b):=kL .str f183 (fun x=>x) (fun _=>rfl) l hl
theorem Ec(l:Zq)(hl:l.length≤aG):∃M b,VR l.length M∧z8 l=some (some M,b):=kL aS f185 (fun x=>x.1) (fun _=>rfl) l hl
theorem zW(l:Zj)(hl:l.length≤aG):∃M b,VR l.length M∧Aa l=some (some M,b):=kL aU f187 (fun x=>x.1) (fun _=>rfl) l hl
theorem wN(l:Zv)(hl:l.length≤aG):∃M b,VR l.length M∧Ab l=some (some M,b):=kL dv f189 (fun x=>x.1) (fun _=>rfl) l hl
theorem BW(l:ZA)(hl:l.length≤aG):∃M b,VR l.length M∧Ac l=some (some M,b):=kL bO f191 (fun x=>x.1) (fun _=>rfl) l hl
theorem Ed(l:Zw)(hl:l.length≤aG):∃M b,VR l.length M∧Ad l=some (some M,b):=kL aL f193 (fun x=>x.1) (fun _=>rfl) l hl
theorem find_eq{n:Nat}(m:Za)(h:VR n (bK m))(k:Zd):f194 m k=some (.inl ((),()))∨∃x,f194 m k=some (.inr x)∧0≤x∧x<(n:Int):=by
 unfold f194
 cases hk:de .str k (bK m) with
 |false=>exact Or.inl (aA (by decide))
 |true=>exact Or.inr ⟨_,aD (by decide),h.get hk⟩
abbrev OM:=Za
theorem Sn(s:cH)(i u m:OM)(l:Zj)(hl:l.length*96≤aG)(hf:∀x∈l,x.2.2.2.2.1.length≤aG):∀(n c:Nat)(g:Bool)(f:List OM),l.length -c<n→c≤l.length→f.length=c→(∀j(hj:j<f.length)(hj':j<l.length),VR l[j].2.2.2.2.1.length (bK f[j]))→
 ∃g' f',lT n (g,l,(l.length:Int),(c:Int),s,i,u,m,f)=some (.brk (g',s,i,u,m,f'))∧f'.length=l.length∧∀j(hj:j<f'.length)(hj':j<l.length),VR l[j].2.2.2.2.1.length (bK f'[j]):=by
 intro n
 have hB:=hB
 induction n with
 |zero=>intro c g f h;omega
 |
  succ n ih=>
  intro c g f hn hc hfl hv
  unfold lT at ih ⊢
  rw[aO]
  generalize aM _ n=rec at ih ⊢
  dsimp only
  by_cases h:c<l.length
  ·obtain⟨M,b,hM,e⟩:=BW l[c].2.2.2.2.1 (hf _ (kg h))
   rw[db (by omega),fP c,aA (show(c:Int)<(l.length:Int) by omega),ew (t:=aU) h,e,aK]
   dsimp only
   rw[aA (show(f.length+List.length [_])*8≤aG by rw[cY];omega),bG (by omega)]
   have key:∀v:Bool,∃g' f',rec (v,l,(l.length:Int),((c+1:Nat):Int),s,i,u,m,f++[some M])=some (.brk (g',s,i,u,m,f'))∧f'.length=l.length∧∀j(hj:j<f'.length)(hj':j<l.length),VR l[j].2.2.2.2.1.length (bK f'[j]):=fun v=>
    ih (
     c+1) v _ (by omega) (by omega) (by rw[eI,cY,hfl]) fun j hj hj'=>by
     by_cases ej:j<f.length
     ·rw[List.getElem_append_left ej];exact hv j ej hj'
     ·have:j=c:=by rw[eI,cY] at hj;omega
      subst this
      rw[List.getElem_append_right (by omega)]
      simp only[hfl,Nat.sub_self,List.getElem_singleton]
      exact hM
   split
   ·rw[aK];exact key true
   ·rw[aK];exact key b
  ·rw[gY (by omega)]
   exact⟨g,f,rfl,by omega,hv⟩
theorem Sp(i u m:OM)(fs:List OM)(l:Zi)(hl:l.length≤aG)(hf:∀x∈l,x.2.2.1.length≤aG):∀(n c:Nat)(g:Bool),l.length -c<n→c≤l.length→
 ∃g',lU n (g,l,(l.length:Int),(c:Int),i,u,m,fs)=some (.brk (g',i,u,m,fs)):=by
 intro n
 have hB:=hB
 induction n with
 |zero=>intro c g h;omega
 |
  succ n ih=>
  intro c g hn hc
  unfold lU at ih ⊢
  rw[aO]
  generalize aM _ n=rec at ih ⊢
  dsimp only
  by_cases h:c<l.length
  ·obtain⟨M,b,_,e⟩:=Ed l[c].2.2.1 (hf _ (kg h))
   rw[db (by omega),fP c,aA (show(c:Int)<(l.length:Int) by omega),ew (t:=bQ) h,e,aK]
   dsimp only
   rw[bG (by omega)]
   split
   ·rw[aK];exact ih (c+1) true (by omega) (by omega)
   ·rw[aK];exact ih (c+1) b (by omega) (by omega)
  ·rw[gY (by omega)]
   exact⟨g,rfl⟩
theorem HI(s:cH)(hs:SS s)(h96:s.2.2.1.length*96≤aG):∃tw i u m fs,Ae s=some (tw,i,u,m,fs)∧VR s.1.length (bK i)∧VR s.2.1.length (bK u)∧VR s.2.2.1.length (bK m)∧fs.length=s.2.2.1.length∧∀j(hj:j<fs.length)(hj':j<s.2.2.1.length),VR s.2.2.1[j].2.2.2.2.1.length (bK fs[j]):=by
 have hB:=hB
 obtain⟨M1,b1,v1,e1⟩:=HH s.1 hs.nR
 obtain⟨M2,b2,v2,e2⟩:=Ec s.2.1 hs.nn
 obtain⟨M3,b3,v3,e3⟩:=zW s.2.2.1 hs.dT
 obtain⟨M4,b4,_,e4⟩:=wN s.2.2.2.2.2.1 hs.fu
 unfold Ae
 rw[e1,aK]
 dsimp only
 rw[e2,aK]
 dsimp only
 have orT:∀(a b:Bool)(K:Bool→Option (Bool×OM×OM×OM×List OM))(P:Option (Bool×OM×OM×OM×List OM)→Prop),(∀v,P (K v))→P (Option.bind (α:=Bool) (if a=true then(some true) else(some b)) K):=fun a b K P h=>by
  cases a with
  |true=>exact h true
  |false=>exact h b
 refine orT _ _ _ (fun y=>∃tw i u m fs,y=some (tw,i,u,m,fs)∧VR s.1.length (bK i)∧VR s.2.1.length (bK u)∧VR s.2.2.1.length (bK m)∧fs.length=s.2.2.1.length∧∀j(hj:j<fs.length)(hj':j<s.2.2.1.length),VR s.2.2.1[j].2.2.2.2.1.length (bK fs[j])) fun w1=>?_
 rw[e3,aK]
 dsimp only
 refine orT _ _ _ (fun y=>∃tw i u m fs,y=some (tw,i,u,m,fs)∧VR s.1.length (bK i)∧VR s.2.1.length (bK u)∧VR s.2.2.1.length (bK m)∧fs.length=s.2.2.1.length∧∀j(hj:j<fs.length)(hj':j<s.2.2.1.length),VR s.2.2.1[j].2.2.2.2.1.length (bK fs[j])) fun w2=>?_
 rw[e4,aK]
 dsimp only
 refine orT _ _ _ (fun y=>∃tw i u m fs,y=some (tw,i,u,m,fs)∧VR s.1.length (bK i)∧VR s.2.1.length (bK u)∧VR s.2.2.1.length (bK m)∧fs.length=s.2.2.1.length∧∀j(hj:j<fs.length)(hj':j<s.2.2.1.length),VR s.2.2.1[j].2.2.2.2.1.length (bK fs[j])) fun w3=>?_
 obtain⟨g',f',e11,hl,hv⟩:=Sn s (some M1) (some M2) (some M3) s.2.2.1 h96 (fun x hx=>(hs.fields x hx).1) (Int.toNat (List.length s.2.2.1:Int)+1) 0 w3 [] (by omega) (by omega) rfl (fun j hj=>by simp at hj)
 have e11':lT (Int.toNat (List.length s.2.2.1:Int)+1) (w3,s.2.2.1,(List.length s.2.2.1:Int),(0:Int),s,some M1,some M2,some M3,([]:List OM))=some (.brk (g',s,some M1,some M2,some M3,f')):=e11
 rw[e11',aJ]
 dsimp only
 obtain⟨g2,e18⟩:=Sp (some M1) (some M2) (some M3) f' s.2.2.2.1 hs.rules (fun x hx=>(hs.rl x hx).1) (Int.toNat (List.length s.2.2.2.1:Int)+1) 0 g' (by omega) (by omega)
 have e18':lU (Int.toNat (List.length s.2.2.2.1:Int)+1) (g',s.2.2.2.1,(List.length s.2.2.2.1:Int),(0:Int),some M1,some M2,some M3,f')=some (.brk (g2,some M1,some M2,some M3,f')):=e18
 rw[e18',aJ]
 exact⟨g2,some M1,some M2,some M3,f',rfl,v1,v2,v3,hl,hv⟩
theorem oE{n:Nat}{m:OM}(h:VR n (bK m)){k:Zd}{R:Type}{kp:Unit×Unit→Option R}{kn:Int→Option R}{P:R→Prop}(h1:W (kp ((),())) P)(h2:∀x,0≤x→x<(n:Int)→W (kn x) P):W (dV (f194 m k) kp kn) P:=by
 rcases find_eq m h k with e|⟨x,e,h0,hx⟩
 ·rw[e];exact h1
 ·rw[e];exact h2 x h0 hx
theorem mc(m:OM){k:Zd}{R:Type}{kp:Unit×Unit→Option R}{kn:Int→Option R}{P:R→Prop}(h1:W (kp ((),())) P)(h2:∀x,W (kn x) P):W (dV (f194 m k) kp kn) P:=by
 unfold f194
 cases de .str k (bK m) with
 |false=>exact h1
 |true=>exact h2 _
theorem HJ(i u m:OM)(l:Zq)(fs:List OM)(hl:l.length≤aG)(hv:VR l.length (bK u)):W (Ag i u m l fs) (ST (fun _=>True) fun r=>∃l',r=(i,u,m,l',fs)):=by
 have hB:=hB
 unfold Ag
 refine bY.2 (W.ct (di (L:=xV) rfl (CT (fun d=>∃l',d=(i,u,m,l',fs)) fun r=>r= .inl ((),())) l.length (fun c(s:Zq)=>((l.length:Int),(c:Int),i,u,m,s,fs)) (fun _ s=>s.length=l.length) ?step ?stop _ 0 l (by omega) (by omega) rfl) (fun d ⟨l',h⟩=>?_) fun r h=>?_)
 case step=>
  intro rec c s hc hI k
  dsimp only
  rw[db (by omega),fP c,aA (show(c:Int)<(s.length:Int) by omega),bG (by omega)]
  split
  ·exact k _ (by rw[bU,bU];exact hI)
  ·refine oE hv ⟨_,rfl,rfl⟩ fun x h0 h1=>?_
   by_cases h:(c:Int)≤x
   ·rw[db h];exact⟨_,rfl,rfl⟩
   ·rw[aD (show¬decide ((c:Int)≤x)=true by simpa using h),aJ]
    dsimp only
    rw[aA h0,aA (show x<(s.length:Int) by omega)]
    generalize hL:List.set _ _ _=L
    have hL':L.length=l.length:=by rw[←hL,bU,bU];exact hI
    clear hL
    rw[aJ]
    dsimp only
    have hx:x<(L.length:Int):=by omega
    rw[aA h0,aA hx]
    refine W.bt ?_ fun v=>?_
    ·repeat' (first|exact⟨_,rfl⟩|split)
    ·split
     ·rw[bG (by omega)]
      exact k _ (by rw[bU];exact hL')
     ·rw[bG (by omega)]
      exact k _ hL'
 case stop=>
  intro rec s hI
  dsimp only
  rw[gY (by omega)]
  exact⟨_,rfl,s,rfl⟩
 ·subst h;exact⟨_,rfl,l',rfl⟩
 ·subst h;exact trivial
def Sq(x:lu):Prop:=x.2.2.2.2.1.length*120≤aG∧x.2.2.2.2.2.1.length*72≤aG∧∀d∈x.2.2.2.2.2.1,d.1.length*16≤aG
theorem Ee(t i u m:OM)(l:Zj)(k:Nat)(a:lu)(fs:List OM)(hb:Sq a):W (Aj t i u m l k a fs) (ST (fun _=>True) fun r=>∃x1 x2 x3 x4 x5 x6 x7,r=(i,u,m,l,k,x1,x2,x3,x4,x5,fs,x6,x7)):=by
 have hB:=hB
 unfold Aj
 refine mc i ⟨_,rfl,trivial⟩ fun y1=>?_
 have e1:Ah a.2.2.2.2.1=some a.2.2.2.2.1:=iM _ _ hb.1
 rw[e1,aK]
 have l1:a.2.2.2.2.1.length≤aG:=by have:=hb.1;omega
 refine bY.2 (W.ct (di (L:=xW) rfl (CT (fun d=>∃s',d=(t,i,u,m,l,k,a.1,a.2.1,y1,a.2.2.2.1,a.2.2.2.2.2,fs,s')) fun r=>r= .inl ((),())) a.2.2.2.2.1.length (fun c(s:ZA)=>(t,(a.2.2.2.2.1.length:Int),(c:Int),i,u,m,l,k,a.1,a.2.1,y1,a.2.2.2.1,a.2.2.2.2.2,fs,s)) (fun _ s=>s.length=a.2.2.2.2.1.length) ?step ?stop _ 0 a.2.2.2.2.1 (by omega) (by omega) rfl) (fun d ⟨s',h⟩=>?_) fun r h=>?_)
 case step=>
  intro rec c s hc hI kk
  dsimp only
  have hw:=nE c (by omega)
  rw[db (by omega),fP c,aA (show(c:Int)<(s.length:Int) by omega)]
  generalize hL:List.set _ _ _=L
  have hL':L.length=a.2.2.2.2.1.length:=by rw[←hL,bU];exact hI
  clear hL
  rw[aJ]
  dsimp only
  refine W.bt ?_ fun v=>?_
  ·split<;>exact⟨_,rfl⟩
  ·split
   ·exact mc u ⟨_,rfl,rfl⟩ fun x=>(by rw[hw];exact kk _ (by rw[bU];exact hL'))
   ·rw[hw];exact kk _ hL'
 case stop=>
  intro rec s hI
  dsimp only
  rw[gY (by omega)]
  exact⟨_,rfl,s,rfl⟩
 ·subst h
  dsimp only
  have e2:Ai a.2.2.2.2.2.1=some a.2.2.2.2.2.1:=iM _ _ hb.2.1
  rw[e2,aK]
  have l2:a.2.2.2.2.2.1.length≤aG:=by have:=hb.2.1;omega
  refine bY.2 (W.ct (di (L:=wm) rfl (CT (fun d=>∃z,d=(i,u,m,l,k,a.1,a.2.1,y1,a.2.2.2.1,a.2.2.2.2.2.2,fs,s',z)) fun r=>r= .inl ((),())) a.2.2.2.2.2.1.length (fun c(s:CA)=>(t,(a.2.2.2.2.2.1.length:Int),(c:Int),i,u,m,l,k,a.1,a.2.1,y1,a.2.2.2.1,a.2.2.2.2.2.2,fs,s',s)) (fun _ s=>s.length=a.2.2.2.2.2.1.length∧∀d∈s,d.1.length*16≤aG) ?step ?stop _ 0 a.2.2.2.2.2.1 (by omega) (by omega) ⟨rfl,hb.2.2⟩) (fun d ⟨z,h⟩=>?_) fun r h=>?_)
  case step=>
   intro rec c s hc hI kk
   dsimp only
   have hcs:(c:Int)<(s.length:Int):=by have:=hI.1;omega
   have hn:(nth eP s (c:Int)).1.length*16≤aG:=hI.2 _ (dw (t:=eP) (eB c) hcs)
   have hw:=nE c (by omega)
   rw[db (by omega),fP c,aA hcs]
   generalize nth eP s (c:Int)=w at hn ⊢
   refine bY.2 (bY.2 (W.ct (di (L:=wj) rfl (CT (fun d=>∃e,d=(t,(a.2.2.2.2.2.1.length:Int),(c:Int),i,u,m,l,k,a.1,a.2.1,y1,a.2.2.2.1,a.2.2.2.2.2.2,fs,s',s,Int.toNat (c:Int),w.1,w.2.1,w.2.2.2,e)) fun r=>r= .ret (.ret (.inl ((),())))) w.1.length (fun j(e:Zf)=>(t,(a.2.2.2.2.2.1.length:Int),(c:Int),w.1,(w.1.length:Int),(j:Int),i,u,m,l,k,a.1,a.2.1,y1,a.2.2.2.1,a.2.2.2.2.2.2,fs,s',s,Int.toNat (c:Int),w.1,w.2.1,w.2.2.2,e)) (fun j e=>e.length=j) ?step2 ?stop2 _ 0 [] (by omega) (by omega) rfl) (fun d ⟨e,h⟩=>?_) fun r h=>?_))
   case step2=>
    intro rec2 j e hj hI2 kk2
    dsimp only
    have hw2:=nE j (by omega)
    rw[db (by omega),fP j,aA (show(j:Int)<(w.1.length:Int) by omega)]
    refine mc t ⟨_,rfl,rfl⟩ fun x=>?_
    rw[aA (show(e.length+List.length [_])*8≤aG by rw[cY];omega)]
    rw[hw2]
    exact kk2 _ (by rw[eI,cY,hI2])
   case stop2=>
    intro rec2 e hI2
    dsimp only
    rw[gY (by omega)]
    exact⟨_,rfl,e,rfl⟩
   ·subst h
    dsimp only
    refine mc t ⟨_,rfl,rfl⟩ fun x=>⟨_,rfl,?_⟩
    rw[jo]
    dsimp only
    rw[hw]
    refine kk _ ⟨by rw[bU];exact hI.1,fun d hd=>?_⟩
    rcases List.mem_or_eq_of_mem_set hd with h|rfl
    ·exact hI.2 d h
    ·exact hn
   ·subst h;exact rfl
  case stop=>
   intro rec s hI
   dsimp only
   rw[gY (by omega)]
   exact⟨_,rfl,s,rfl⟩
  ·subst h
   exact⟨_,rfl,_,_,_,_,_,_,_,rfl⟩
  ·subst h;exact trivial
 ·subst h;exact trivial
def Sc(l:Zw):Zf:=l.map fun x=>x.2.2.1
theorem wi(l:Zw):(Sc l).length=l.length:=iD ..
theorem zX(l:Zw)(i:Nat)(v:sP)(h:v.2.2.1=(l.getD i (Ty.aC aL)).2.2.1):Sc (l.set i v)=Sc l:=by
 unfold Sc
 rw[List.map_set]
 refine List.ext_getElem (by rw[bU]) fun j h1 h2=>?_
 rw[List.getElem_set]
 split
 ·rename_i e
  subst e
  rw[iD] at h2
  rw[h,List.getElem_map,qh,qg h2,Option.getD_some]
 ·rfl
def VS(n K:Nat)(s:Zf):Prop:=n≤s.length∧∀j(h:j<s.length),j<n→0≤s[j]∧s[j]<(K:Int)
theorem VS.at'{n K:Nat}{l:Zw}(h:VS n K (Sc l)){x:Int}(h0:0≤x)(h1:x<(n:Int)):x<(l.length:Int)∧0≤(nth aL l x).2.2.1∧(nth aL l x).2.2.1<(K:Int):=by
 have hn:=h.1
 rw[wi] at hn
 have e:x=(x.toNat:Int):=by omega
 have hx:x.toNat<l.length:=by omega
 have hs:=h.2 x.toNat (by rw[wi];exact hx) (by omega)
 rw[e,ew (t:=aL) hx]
 unfold Sc at hs
 rw[List.getElem_map] at hs
 exact⟨by omega,hs⟩
theorem gG{α:Type}{l:List α}{i:Nat}{v d:α}(h:i<l.length):(l.set i v).getD i d=v:=by
 rw[qh,qg (by rw[bU];exact h),Option.getD_some,List.getElem_set_self]
theorem Sr(a0:Nat)(a1:Zw)(a2:Zp)(i u m:OM)(a6:Zi)(a7:Nat)(a8:Zd)(a9:Int)(a10:Zz×ZB×Unit)(fs:List OM)(n:Nat)(h0:a0<a1.length)(hv:VR n a2)(hs:VS n fs.length (Sc a1)):
 W (tQ a0 a1 a2 i u m a6 a7 a8 a9 a10 fs) (ST (fun _=>True) fun r=>∃a1',r=(a1',a2,i,u,m,a6,a7,a8,a9,a10,fs)∧Sc a1'=Sc a1):=by
 unfold tQ
 generalize hL:List.set (List.set a1 _ _) _ _=L
 have hL':Sc L=Sc a1:=by
  rw[←hL,zX _ _ _ (by rfl),zX _ _ _ (by rfl)]
 have hLl:a0<L.length:=by rw[←hL,bU,bU];exact h0
 clear hL
 rw[aJ]
 dsimp only
 split
 ·refine bY.2 (oE (m:=some a2) hv ⟨_,rfl,trivial⟩ fun x hx0 hx1=>⟨_,rfl,?_⟩)
  rw[jo]
  generalize hM:List.set _ _ _=M
  have hg:(List.getD M a0 (Ty.aC aL)).2.2.2.1.2.2.1=x:=by rw[←hM,gG hLl]
  have hM':Sc M=Sc a1:=by rw[←hM,zX _ _ _ (by rfl)];exact hL'
  clear hM
  dsimp only
  rw[←hM'] at hs
  obtain⟨q1,q2,q3⟩:=hs.at' hx0 hx1
  rw[hg,aA hx0,aA q1,aA q2,aA q3]
  refine mc _ ⟨_,rfl,trivial⟩ fun y=>⟨_,rfl,_,rfl,?_⟩
  rw[zX _ _ _ (by rfl)];exact hM'
 ·exact⟨_,rfl,_,rfl,hL'⟩
theorem Ss(a0:Nat)(a1:Zz)(a2:Zp)(i u m:OM)(a6:Zi)(a7:Nat)(a8:Zd)(a9:Int)(a10:ZB×Unit)(fs:List OM)(a12:Zw)(n:Nat)(h0:a0<a1.length)(hv:VR n a2)(hs:VS n fs.length (Sc a12)):
 W (tR a0 a1 a2 i u m a6 a7 a8 a9 a10 fs a12) (ST (fun _=>True) fun r=>∃a1',r=(a1',a2,i,u,m,a6,a7,a8,a9,a10,fs,a12)∧a1'.length=a1.length):=by
 unfold tR
 generalize hL:List.set (List.set a1 _ _) _ _=L
 have hL':L.length=a1.length:=by rw[←hL,bU,bU]
 clear hL
 rw[aJ]
 dsimp only
 split
 ·refine bY.2 (oE (m:=some a2) hv ⟨_,rfl,trivial⟩ fun x hx0 hx1=>⟨_,rfl,?_⟩)
  rw[jo]
  generalize hM:List.set _ _ _=M
  have hg:(List.getD M a0 (Ty.aC aQ)).2.1.2.2.1=x:=by rw[←hM,gG (by omega)]
  have hM':M.length=a1.length:=by rw[←hM,bU];exact hL'
  clear hM
  dsimp only
  obtain⟨q1,q2,q3⟩:=hs.at' hx0 hx1
  rw[hg,aA hx0,aA q1,aA q2,aA q3]
  refine mc _ ⟨_,rfl,trivial⟩ fun y=>⟨_,rfl,_,rfl,?_⟩
  rw[bU];exact hM'
 ·exact⟨_,rfl,_,rfl,hL'⟩
theorem Su(a0:Nat)(a1:Zz)(a2:Zp)(i u m:OM)(a6:Zi)(a7:Nat)(a8:Zd)(a9:Int)(a10:ZB×Unit)(fs:List OM)(a12:Zw)(n:Nat)(h0:a0<a1.length)(hv:VR n a2)(hs:VS n fs.length (Sc a12)):
 W (tF a0 a1 a2 i u m a6 a7 a8 a9 a10 fs a12) (ST (fun _=>True) fun r=>∃a1',r=(a1',a2,i,u,m,a6,a7,a8,a9,a10,fs,a12)∧a1'.length=a1.length):=by
 unfold tF
 generalize hL:List.set (List.set a1 _ _) _ _=L
 have hL':L.length=a1.length:=by rw[←hL,bU,bU]
 clear hL
 rw[aJ]
 dsimp only
 split
 ·refine bY.2 (oE (m:=some a2) hv ⟨_,rfl,trivial⟩ fun x hx0 hx1=>⟨_,rfl,?_⟩)
  rw[jo]
  generalize hM:List.set _ _ _=M
  have hg:(List.getD M a0 (Ty.aC aQ)).2.2.1.2.2.1=x:=by rw[←hM,gG (by omega)]
  have hM':M.length=a1.length:=by rw[←hM,bU];exact hL'
  clear hM
  dsimp only
  obtain⟨q1,q2,q3⟩:=hs.at' hx0 hx1
  rw[hg,aA hx0,aA q1,aA q2,aA q3]
  refine mc _ ⟨_,rfl,trivial⟩ fun y=>⟨_,rfl,_,rfl,?_⟩
  rw[bU];exact hM'
 ·exact⟨_,rfl,_,rfl,hL'⟩
theorem Sv(a0:Nat)(a1:ZB)(a2:Zp)(i u m:OM)(a6:Zi)(a7:Nat)(a8:Zd)(a9:Int)(a10:Unit)(fs:List OM)(a12:Zw)(a13:Zz)(n:Nat)(h0:a0<a1.length)(hv:VR n a2)(hs:VS n fs.length (Sc a12)):
 W (tG a0 a1 a2 i u m a6 a7 a8 a9 a10 fs a12 a13) (ST (fun _=>True) fun r=>∃a1',r=(a1',a2,i,u,m,a6,a7,a8,a9,a10,fs,a12,a13)∧a1'.length=a1.length):=by
 unfold tG
 generalize hL:List.set (List.set a1 _ _) _ _=L
 have hL':L.length=a1.length:=by rw[←hL,bU,bU]
 clear hL
 rw[aJ]
 dsimp only
 split
 ·refine bY.2 (oE (m:=some a2) hv ⟨_,rfl,trivial⟩ fun x hx0 hx1=>⟨_,rfl,?_⟩)
  rw[jo]
  generalize hM:List.set _ _ _=M
  have hg:(List.getD M a0 (Ty.aC aZ)).2.2.1.2.2.1=x:=by rw[←hM,gG (by omega)]
  have hM':M.length=a1.length:=by rw[←hM,bU];exact hL'
  clear hM
  dsimp only
  obtain⟨q1,q2,q3⟩:=hs.at' hx0 hx1
  rw[hg,aA hx0,aA q1,aA q2,aA q3]
  refine mc _ ⟨_,rfl,trivial⟩ fun y=>⟨_,rfl,_,rfl,?_⟩
  rw[bU];exact hM'
 ·exact⟨_,rfl,_,rfl,hL'⟩
def Kw(x:iA):Prop:=x.2.2.1.length*96≤aG∧x.2.2.2.1.length*120≤aG∧x.2.2.2.2.1.length*80≤aG
theorem VS.adY{n K:Nat}{s:Zf}(h:VS n K s)(y:Int):VS n K (s.set n y):=by
 refine⟨by rw[bU];exact h.1,fun j hj hn=>?_⟩
 rw[bU] at hj
 rw[List.getElem_set_ne (by omega)]
 exact h.2 j hj hn
theorem VS.push{n K:Nat}{s:Zf}(h:VS n K s)(hn:n<s.length){y:Int}(h0:0≤y)(h1:y<(K:Int)):VS (n+1) K (s.set n y):=by
 refine⟨by rw[bU];exact hn,fun j hj hjn=>?_⟩
 rw[bU] at hj
 by_cases e:j=n
 ·subst e
  rw[List.getElem_set_self]
  exact⟨h0,h1⟩
 ·rw[List.getElem_set_ne (by omega)]
  exact h.2 j hj (by omega)
theorem VR.push{n:Nat}{M:Zp}(h:VR n M)(k:Zd):VR (n+1) (bF .str k (n:Int) M):=fun p hp=>by
 rcases fw (kt:=.str) hp with rfl|hp
 ·exact⟨eB n,by show(n:Int)<_;omega⟩
 ·have:=h p hp
  exact⟨this.1,by omega⟩
theorem OU(l:Zw)(i:Nat)(v:sP):Sc (l.set i v)=(Sc l).set i v.2.2.1:=List.map_set ..
theorem Kx(i u m:OM)(l:Zi)(k:Nat)(a:iA)(fs:List OM)(hb:Kw a)(hm:VR fs.length (bK m)):W (tH i u m l k a fs) (ST (fun _=>True) fun r=>∃x1 x2 x3 x4 x5 x6,r=(i,u,m,l,k,x1,x2,x3,fs,x4,x5,x6)):=by
 have hB:=hB
 unfold tH
 refine oE hm ⟨_,rfl,trivial⟩ fun y1 y0 yK=>?_
 have e1:Ak a.2.2.1=some a.2.2.1:=iM _ _ hb.1
 rw[e1,aK]
 have l1:a.2.2.1.length≤aG:=by have:=hb.1;omega
 have l2:a.2.2.2.1.length≤aG:=by have:=hb.2.1;omega
 have l3:a.2.2.2.2.1.length≤aG:=by have:=hb.2.2;omega
 refine bY.2 (W.ct (di (L:=vP) rfl (CT (fun d=>∃s V,d=(i,u,m,l,k,a.1,y1,a.2.2.2,fs,s,V)∧s.length=a.2.2.1.length∧VR s.length V∧VS s.length fs.length (Sc s)) fun r=>r= .inl ((),())) a.2.2.1.length (fun c(s:Zw×Zp)=>((a.2.2.1.length:Int),(c:Int),i,u,m,l,k,a.1,y1,a.2.2.2,fs,s.1,s.2)) (fun c s=>s.1.length=a.2.2.1.length∧s.2.length≤c∧VR c s.2∧VS c fs.length (Sc s.1)) ?step ?stop _ 0 (a.2.2.1,[]) (by omega) (by omega) ⟨rfl,dD _,fun p hp=>(by cases hp),fR _,fun j hj hj0=>absurd hj0 (Nat.not_lt_zero _)⟩) (fun d ⟨s,V,h,hsl,hVR,hVS⟩=>?_) fun r h=>?_)
 case step=>
  rintro rec c ⟨s,V⟩ hc ⟨hsl,hVl,hVR,hVS⟩ kk
  dsimp only at hsl hVl hVR hVS ⊢
  have hw:=nE c (by omega)
  rw[db (by omega),fP c,aA (show(c:Int)<(s.length:Int) by omega)]
  refine bY.2 (oE hm ⟨_,rfl,rfl⟩ fun x x0 xK=>⟨_,rfl,?_⟩)
  rw[jo]
  generalize hL:List.set _ _ _=L
  have hS:Sc L=(Sc s).set c x:=by rw[←hL,OU,fb]
  have hLl:L.length=a.2.2.1.length:=by rw[←hL,bU];exact hsl
  clear hL
  dsimp only
  refine lz.2 ((Sr (Int.toNat (c:Int)) L V i u m l k a.1 y1 a.2.2.2 fs c (by rw[fb];omega) hVR (by rw[hS];exact hVS.adY x)).st (fun _ _=>⟨_,rfl,rfl⟩) fun r ⟨L',hr,hL'⟩=>?_)
  subst hr
  dsimp only
  rw[aA (show V.length+1≤aG by omega)]
  rw[hw]
  refine kk (L',bF .str (List.getD L' (Int.toNat (c:Int)) (Ty.aC aL)).1 (c:Int) V) ⟨?_,dp (eM (kt:=.str)) (by omega),VR.push (n:=c) hVR _,?_⟩
  ·have:=congrArg List.length hL'
   rw[wi,wi] at this
   exact this.trans hLl
  ·show VS (c+1) fs.length (Sc L')
   rw[hL',hS]
   exact hVS.push (by rw[wi];omega) x0 xK
 case stop=>
  rintro rec ⟨s,V⟩ ⟨hsl,hVl,hVR,hVS⟩
  dsimp only at hsl hVl hVR hVS ⊢
  rw[gY (by omega)]
  exact⟨_,rfl,s,V,rfl,hsl,hsl▸hVR,hsl▸hVS⟩
 ·subst h
  dsimp only
  have e2:Al a.2.2.2.1=some a.2.2.2.1:=iM _ _ hb.2.1
  rw[e2,aK]
  refine bY.2 (W.ct (di (L:=sx) rfl (CT (fun d=>∃w,d=(i,u,m,l,k,a.1,y1,a.2.2.2.2,fs,s,V,w)) fun r=>r= .inl ((),())) a.2.2.2.1.length (fun c(w:Zz)=>((a.2.2.2.1.length:Int),(c:Int),i,u,m,l,k,a.1,y1,a.2.2.2.2,fs,s,V,w)) (fun _ w=>w.length=a.2.2.2.1.length) ?step ?stop _ 0 a.2.2.2.1 (by omega) (by omega) rfl) (fun d ⟨w,h⟩=>?_) fun r h=>?_)
  case step=>
   intro rec c w hc hI kk
   dsimp only
   have hw:=nE c (by omega)
   rw[db (by omega),fP c,aA (show(c:Int)<(w.length:Int) by omega)]
   refine lz.2 ((Ss (Int.toNat (c:Int)) w V i u m l k a.1 y1 a.2.2.2.2 fs s s.length (by rw[fb];omega) hVR hVS).st (fun _ _=>⟨_,rfl,rfl⟩) fun r ⟨w',hr,hw'⟩=>?_)
   subst hr
   dsimp only
   rw[fP c,aA (show(c:Int)<(w'.length:Int) by omega)]
   refine lz.2 ((Su (Int.toNat (c:Int)) w' V i u m l k a.1 y1 a.2.2.2.2 fs s s.length (by rw[fb];omega) hVR hVS).st (fun _ _=>⟨_,rfl,rfl⟩) fun r ⟨w2,hr,hw2⟩=>?_)
   subst hr
   rw[hw]
   exact kk w2 (hw2.trans (hw'.trans hI))
  case stop=>
   intro rec w hI
   dsimp only
   rw[gY (by omega)]
   exact⟨_,rfl,w,rfl⟩
  ·subst h
   dsimp only
   have e3:zD a.2.2.2.2.1=some a.2.2.2.2.1:=iM _ _ hb.2.2
   rw[e3,aK]
   refine bY.2 (W.ct (di (L:=sy) rfl (CT (fun d=>∃z,d=(i,u,m,l,k,a.1,y1,(),fs,s,w,z)) fun r=>r= .inl ((),())) a.2.2.2.2.1.length (fun c(z:ZB)=>((a.2.2.2.2.1.length:Int),(c:Int),i,u,m,l,k,a.1,y1,a.2.2.2.2.2,fs,s,V,w,z)) (fun _ z=>z.length=a.2.2.2.2.1.length) ?step ?stop _ 0 a.2.2.2.2.1 (by omega) (by omega) rfl) (fun d ⟨z,h⟩=>?_) fun r h=>?_)
   case step=>
    intro rec c z hc hI kk
    dsimp only
    have hz:(c:Int)<(z.length:Int):=by omega
    have hw:=nE c (by omega)
    rw[db (by omega),aA y0,aA yK,fP c,aA hz]
    refine mc _ ⟨_,rfl,rfl⟩ fun x=>?_
    rw[fP c,aA hz]
    generalize hZ:List.set z _ _=Z
    have hZl:Z.length=a.2.2.2.2.1.length:=by rw[←hZ,bU];exact hI
    clear hZ
    rw[fP c,aA (show(c:Int)<(Z.length:Int) by omega)]
    refine lz.2 ((Sv (Int.toNat (c:Int)) Z V i u m l k a.1 y1 a.2.2.2.2.2 fs s w s.length (by rw[fb];omega) hVR hVS).st (fun _ _=>⟨_,rfl,rfl⟩) fun r ⟨w2,hr,hw2⟩=>?_)
    subst hr
    rw[hw]
    exact kk w2 (hw2.trans hZl)
   case stop=>
    intro rec z hI
    dsimp only
    rw[gY (by omega)]
    exact⟨_,rfl,z,rfl⟩
   ·subst h
    exact⟨_,rfl,_,_,_,_,_,_,rfl⟩
   ·subst h;exact trivial
  ·subst h;exact trivial
 ·subst h;exact trivial
theorem BX(i u m:OM)(l:ZC)(k:Nat)(a:qR)(fs:List OM)(hb:a.2.2.2.2.1.length*56≤aG)(hm:VR fs.length (bK m)):W (tJ i u m l k a fs) (ST (fun _=>True) fun r=>∃x1 x2 x3 x4 x5 x6,r=(i,u,m,l,k,x1,x2,x3,x4,x5,fs,x6)):=by
 have hB:=hB
 unfold tJ
 refine oE hm ⟨_,rfl,trivial⟩ fun y1 y0 yK=>oE hm ⟨_,rfl,trivial⟩ fun y2 z0 zK=>?_
 have e1:zE a.2.2.2.2.1=some a.2.2.2.2.1:=iM _ _ hb
 rw[e1,aK]
 refine bY.2 (W.ct (di (L:=vQ) rfl (CT (fun d=>∃s,d=(i,u,m,l,k,a.1,a.2.1,y1,y2,a.2.2.2.2.2,fs,s)) fun r=>r= .inl ((),())) a.2.2.2.2.1.length (fun c(s:Zq)=>((a.2.2.2.2.1.length:Int),(c:Int),i,u,m,l,k,a.1,a.2.1,y1,y2,a.2.2.2.2.2,fs,s)) (fun _ s=>s.length=a.2.2.2.2.1.length) ?step ?stop _ 0 a.2.2.2.2.1 (by omega) (by omega) rfl) (fun d ⟨w,h⟩=>?_) fun r h=>?_)
 case step=>
  intro rec c s hc hI kk
  dsimp only
  have hw:=nE c (by omega)
  rw[db (by omega),fP c,aA (show(c:Int)<(s.length:Int) by omega),aA y0,aA yK]
  refine mc _ ?_ fun x=>?_
  ·rw[aA z0,aA zK];exact⟨_,rfl,rfl⟩
  ·rw[aA z0,aA zK]
   refine mc _ ⟨_,rfl,rfl⟩ fun y=>?_
   rw[hw]
   exact kk _ (by rw[bU,bU];exact hI)
 case stop=>
  intro rec s hI
  dsimp only
  rw[gY (by omega)]
  exact⟨_,rfl,s,rfl⟩
 ·subst h
  exact⟨_,rfl,_,_,_,_,_,_,rfl⟩
 ·subst h;exact trivial
theorem BY(i u m:OM)(l:Zv)(k:Nat)(a:nU)(fs:List OM)(hb:a.2.1.length*48≤aG)(hm:VR fs.length (bK m)):W (tK i u m l k a fs) (ST (fun _=>True) fun r=>∃x1 x2 x3,r=(i,u,m,l,k,x1,x2,fs,x3)):=by
 have hB:=hB
 unfold tK
 have e1:zG a.2.1=some a.2.1:=iM _ _ hb
 rw[e1,aK]
 refine bY.2 (W.ct (di (L:=vR) rfl (CT (fun d=>∃s,d=(i,u,m,l,k,a.1,a.2.2,fs,s)) fun r=>r= .inl ((),())) a.2.1.length (fun c(s:List oM)=>((a.2.1.length:Int),(c:Int),i,u,m,l,k,a.1,a.2.2,fs,s)) (fun _ s=>s.length=a.2.1.length) ?step ?stop _ 0 a.2.1 (by omega) (by omega) rfl) (fun d ⟨w,h⟩=>?_) fun r h=>?_)
 case step=>
  intro rec c s hc hI kk
  dsimp only
  have hw:=nE c (by omega)
  rw[db (by omega),fP c,aA (show(c:Int)<(s.length:Int) by omega)]
  refine bY.2 (oE hm ⟨_,rfl,rfl⟩ fun x x0 xK=>⟨_,rfl,?_⟩)
  rw[jo]
  generalize hM:List.set _ _ _=M
  have hg:(List.getD M (Int.toNat (c:Int)) (Ty.aC eQ)).2.2.1=x:=by rw[←hM,gG (by rw[fb];omega)]
  have hM':M.length=a.2.1.length:=by rw[←hM,bU];exact hI
  clear hM
  dsimp only
  rw[hg,aA x0,aA xK]
  refine mc _ ⟨_,rfl,rfl⟩ fun y=>?_
  rw[hw]
  exact kk _ (by rw[bU];exact hM')
 case stop=>
  intro rec s hI
  dsimp only
  rw[gY (by omega)]
  exact⟨_,rfl,s,rfl⟩
 ·subst h
  exact⟨_,rfl,_,_,_,rfl⟩
 ·subst h;exact trivial
structure BS(s:cH):Prop where
 nR:s.1.length*16≤aG
 nn:s.2.1.length*56≤aG
 dT:s.2.2.1.length*96≤aG
 rules:s.2.2.2.1.length*96≤aG
 je:s.2.2.2.2.1.length*72≤aG
 fu:s.2.2.2.2.2.1.length*48≤aG
 sch:∀x∈s.2.2.1,Sq x
 rl:∀x∈s.2.2.2.1,Kw x
 cv:∀x∈s.2.2.2.2.1,x.2.2.2.2.1.length*56≤aG
 pu:∀x∈s.2.2.2.2.2.1,x.2.1.length*48≤aG
def jU{α:Type}(P:α→Prop)(c:Nat)(l:List α):Prop:=∀j(h:j<l.length),c≤j→P l[j]
theorem jU.of{α:Type}{P:α→Prop}{l:List α}(h:∀x∈l,P x):jU P 0 l:=fun _ hj _=>h _ (kg hj)
theorem jU.next{α:Type}{P:α→Prop}{c:Nat}{l:List α}(h:jU P c l)(v:α):jU P (c+1) (l.set (Int.toNat (c:Int)) v):=fun j hj hc=>by
 have hj':j<l.length:=by rw[bU] at hj;exact hj
 rw[List.getElem_set_ne (by rw[fb];omega)]
 exact h j hj' (by omega)
theorem jU.here{t:Ty}{P:t.den→Prop}{c:Nat}{l:List t.den}(h:jU P c l)(hc:c<l.length):P (nth t l (c:Int)):=by
 rw[ew (t:=t) hc]
 exact h c hc (dD _)
theorem BZ(s:cH)(hs:SS s)(hb:BS s):W (f44 s) fun _=>True:=by
 have hB:=hB
 obtain⟨tw,i,u,m,fs,e,hi,hu,hm,hl,hf⟩:=HI s hs hb.dT
 unfold f44
 rw[e,aK]
 dsimp only
 split
 ·exact⟨_,rfl,trivial⟩
 ·have e1:El s.1=some s.1:=iM _ _ hb.nR
  have e2:Em s.2.1=some s.2.1:=iM _ _ hb.nn
  have e3:En s.2.2.1=some s.2.2.1:=iM _ _ hb.dT
  have e4:Eo s.2.2.2.1=some s.2.2.2.1:=iM _ _ hb.rules
  have e5:Ep s.2.2.2.2.1=some s.2.2.2.2.1:=iM _ _ hb.je
  have e6:Er s.2.2.2.2.2.1=some s.2.2.2.2.2.1:=iM _ _ hb.fu
  rw[e1,aK,e2,aK,e3,aK,e4,aK,e5,aK,e6,aK]
  have k3:=hs.dT
  have k4:=hs.rules
  have k5:=hs.je
  have k6:=hs.fu
  have p3:=jU.of hb.sch
  have p4:=jU.of hb.rl
  have p5:=jU.of hb.cv
  have p6:=jU.of hb.pu
  have qu:=HJ i u m s.2.1 fs hs.nn hu
  rw[←hl] at hm
  generalize s.1=v1 at*
  generalize s.2.1=v2 at*
  generalize s.2.2.1=v3 at*
  generalize s.2.2.2.1=v4 at*
  generalize s.2.2.2.2.1=v5 at*
  generalize s.2.2.2.2.2.1=v6 at*
  refine lz.2 (qu.st (fun _ _=>⟨_,rfl,trivial⟩) fun r ⟨us,hr⟩=>?_)
  subst hr
  dsimp only
  refine bY.2 (W.ct (di (L:=JW) rfl (CT (fun d=>∃p,d=((0:Int),i,u,m,v1,us,p,v4,v5,v6,fs)) fun _=>True) v3.length (fun c(p:Zj)=>((v3.length:Int),(c:Int),(0:Int),i,u,m,v1,us,p,v4,v5,v6,fs)) (fun c p=>p.length=v3.length∧jU Sq c p) ?step ?stop _ 0 v3 (by omega) (by omega) ⟨rfl,p3⟩) (fun d ⟨w3,h⟩=>?_) fun _ _=>trivial)
  case step=>
   rintro rec c p hc ⟨hp,hT⟩ kk
   dsimp only
   have hcp:c<p.length:=by omega
   have hw:=nE c (by omega)
   rw[db (by omega),fP c,aA (show(c:Int)<(p.length:Int) by omega),fP c,aA rfl,fP c,aA (show(c:Int)<(fs.length:Int) by omega)]
   refine lz.2 ((Ee _ i u m p _ _ fs (hT.here (t:=aU) hcp)).st (fun _ _=>⟨_,rfl,trivial⟩) fun r ⟨x1,x2,x3,x4,x5,x6,x7,hr⟩=>?_)
   subst hr
   rw[hw]
   exact kk _ ⟨by rw[bU];exact hp,hT.next _⟩
  case stop=>
   rintro rec p ⟨hp,hT⟩
   dsimp only
   rw[gY (by omega)]
   exact⟨_,rfl,p,rfl⟩
  subst h
  dsimp only
  refine bY.2 (W.ct (di (L:=F1) rfl (CT (fun d=>∃p,d=((0:Int),i,u,m,v1,us,w3,p,v5,v6,fs)) fun _=>True) v4.length (fun c(p:Zi)=>((v4.length:Int),(c:Int),(0:Int),i,u,m,v1,us,w3,p,v5,v6,fs)) (fun c p=>p.length=v4.length∧jU Kw c p) ?step ?stop _ 0 v4 (by omega) (by omega) ⟨rfl,p4⟩) (fun d ⟨w4,h⟩=>?_) fun _ _=>trivial)
  case step=>
   rintro rec c p hc ⟨hp,hT⟩ kk
   dsimp only
   have hcp:c<p.length:=by omega
   have hw:=nE c (by omega)
   rw[db (by omega),fP c,aA (show(c:Int)<(p.length:Int) by omega),fP c,aA rfl]
   refine lz.2 ((Kx i u m p _ _ fs (hT.here (t:=bQ) hcp) hm).st (fun _ _=>⟨_,rfl,trivial⟩) fun r ⟨x1,x2,x3,x4,x5,x6,hr⟩=>?_)
   subst hr
   rw[hw]
   exact kk _ ⟨by rw[bU];exact hp,hT.next _⟩
  case stop=>
   rintro rec p ⟨hp,hT⟩
   dsimp only
   rw[gY (by omega)]
   exact⟨_,rfl,p,rfl⟩
  subst h
  dsimp only
  refine bY.2 (W.ct (di (L:=F2) rfl (CT (fun d=>∃p,d=((0:Int),i,u,m,v1,us,w3,w4,p,v6,fs)) fun _=>True) v5.length (fun c(p:ZC)=>((v5.length:Int),(c:Int),(0:Int),i,u,m,v1,us,w3,w4,p,v6,fs)) (fun c p=>p.length=v5.length∧jU (fun x:qR=>x.2.2.2.2.1.length*56≤aG) c p) ?step ?stop _ 0 v5 (by omega) (by omega) ⟨rfl,p5⟩) (fun d ⟨w5,h⟩=>?_) fun _ _=>trivial)
  case step=>
   rintro rec c p hc ⟨hp,hT⟩ kk
   dsimp only
   have hcp:c<p.length:=by omega
   have hw:=nE c (by omega)
   rw[db (by omega),fP c,aA (show(c:Int)<(p.length:Int) by omega),fP c,aA rfl]
   refine lz.2 ((BX i u m p _ _ fs (hT.here (t:=fA) hcp) hm).st (fun _ _=>⟨_,rfl,trivial⟩) fun r ⟨x1,x2,x3,x4,x5,x6,hr⟩=>?_)
   subst hr
   rw[hw]
   exact kk _ ⟨by rw[bU];exact hp,hT.next _⟩
  case stop=>
   rintro rec p ⟨hp,hT⟩
   dsimp only
   rw[gY (by omega)]
   exact⟨_,rfl,p,rfl⟩
  subst h
  dsimp only
  refine bY.2 (W.ct (di (L:=F3) rfl (CT (fun _=>True) fun _=>True) v6.length (fun c(p:Zv)=>((v6.length:Int),(c:Int),(0:Int),i,u,m,v1,us,w3,w4,w5,p,fs)) (fun c p=>p.length=v6.length∧jU (fun x:nU=>x.2.1.length*48≤aG) c p) ?step ?stop _ 0 v6 (by omega) (by omega) ⟨rfl,p6⟩) (fun d h=>?_) fun _ _=>trivial)
  case step=>
   rintro rec c p hc ⟨hp,hT⟩ kk
   dsimp only
   have hcp:c<p.length:=by omega
   have hw:=nE c (by omega)
   rw[db (by omega),fP c,aA (show(c:Int)<(p.length:Int) by omega),fP c,aA rfl]
   refine lz.2 ((BY i u m p _ _ fs (hT.here (t:=dv) hcp) hm).st (fun _ _=>⟨_,rfl,trivial⟩) fun r ⟨x1,x2,x3,hr⟩=>?_)
   subst hr
   rw[hw]
   exact kk _ ⟨by rw[bU];exact hp,hT.next _⟩
  case stop=>
   rintro rec p ⟨hp,hT⟩
   dsimp only
   rw[gY (by omega)]
   exact⟨_,rfl,trivial⟩
  exact⟨_,rfl,trivial⟩
theorem zY(s:cH)(hs:SS s)(hb:BS s):∃r,f30 s=some r:=by
 obtain⟨⟨a,b⟩,e,_⟩:=BZ s hs hb
 unfold f30
 rw[e,aK]
 dsimp only
 obtain⟨q,hq⟩:=BV a s hs
 rw[hq,aK]
 repeat' (first|exact⟨_,rfl⟩|split)
structure SA(s:cH):Prop where
 ss:SS s
 bs:BS s
 sw:SW s
structure CG(s:cH)(l:Zf):Prop where
 tg:TG s
 rk:rI s l
 sw:SW s
 od:f35 s=some (l,true,0)
theorem Kz(s:cH)(hs:SA s):∃r,f15 s=some r∧(r.1=0→r.2.1=s∧CG s r.2.2.1):=by
 have no:∀(x:Int)(y:B3),(!decide (x=(0:Int)))=true→∃r,some (x,y)=some r∧(r.1=0→r.2.1=s∧CG s r.2.2.1):=fun x y hx=>⟨_,rfl,fun h=>by
  have:x=0:=h
  subst this
  cases hx⟩
 unfold f15
 obtain⟨r1,e1⟩:=zY s hs.ss hs.bs
 obtain⟨r2,e2,_⟩:=xT s hs.sw
 obtain⟨r3,e3⟩:=wg s hs.ss
 obtain⟨r4,e4,m4⟩:=D9 s hs.sw
 obtain⟨r5,e5⟩:=Eb s hs.sw.nb hs.ss
 rw[e1,aK]
 by_cases h1:(!decide (r1=(0:Int)))=true
 ·rw[aA h1];exact no _ _ h1
 ·rw[aD h1,e2,aK]
  by_cases h2:(!decide (r2=(0:Int)))=true
  ·rw[aA h2];exact no _ _ h2
  ·rw[aD h2,e3,aK]
   by_cases h3:(!decide (r3=(0:Int)))=true
   ·rw[aA h3];exact no _ _ h3
   ·rw[aD h3,e4,aK]
    by_cases h4:(!decide (r4=(0:Int)))=true
    ·rw[aA h4];exact no _ _ h4
    ·rw[aD h4,e5,aK]
     by_cases h5:(!decide (r5=(0:Int)))=true
     ·rw[aA h5];exact no _ _ h5
     ·rw[aD h5,aJ]
      obtain⟨hT,l,ho,hR⟩:=m4 (by simpa using h4)
      rw[ho,aK]
      exact⟨_,rfl,fun _=>⟨rfl,hT,hR,hs.sw,ho⟩⟩
theorem KA(g:B3)(hs:SA g.1):∃r,f6 g=some r∧(r=0→∃l,CG g.1 l):=by
 obtain⟨⟨r,b⟩,e,hm⟩:=Kz g.1 hs
 unfold f6
 rw[e,aK]
 dsimp only
 by_cases h:r=0
 ·subst h
  obtain⟨hb,hc⟩:=hm rfl
  have yes:∀y:ZU,(∃z,y=some z)→∃r,y=some r∧(r=0→∃l,CG g.1 l):=fun y ⟨z,hz⟩=>⟨z,hz,fun _=>⟨_,hc⟩⟩
  apply yes
  obtain⟨q,hq⟩:=BV b.1 g.1 hs.ss
  obtain⟨q2,hq2⟩:∃r,f37 b.2.1 g.2.1=some r:=KQ (.int .i64) (fun a b=>decide (a=b)) _ _ fun _=>dp hc.rk.len (by have:=hc.tg.many;have:=hB;omega)
  unfold f16
  rw[hq]
  cases q<;>cases q2<;>simp only[aK,hq2]<;>simp
 ·refine⟨160,?_,fun h'=>(by cases h')⟩
  rw[aA (by simp[h])]
  rfl
end Go.Proofs.YtaghhonjcdokjaaGreatDoor
