/- part -/
import Derived.Test.YtkhfnbfpgcjllaaGreatDoorUO
import Derived.Test.YtkhfnbfpgcjllaaGreatDoorA5
import Derived.Test.YtkhfnbfpgcjllaaGreatDoorF7
noncomputable section
namespace Go.Proofs.YtkhfnbfpgcjllaaGreatDoor
open Go.Ax
theorem hB:aF=140737488355328:=rfl
theorem CE{l:Zd}{i j:Nat}(hi:i<l.length)(hj:j<l.length):pb (i:Int) (j:Int) l=some (decide (l[i]<l[j]),l):=by
 have h1:(i:Int)<(l.length:Int):=by omega
 have h2:(j:Int)<(l.length:Int):=by omega
 simp only[pb,cw,h1,h2,cu,cH (t:=.int .i64) hi,cH (t:=.int .i64) hj]
theorem swap_eq{l:Zd}{i j:Nat}(hi:i<l.length)(hj:j<l.length):∃l',nN (i:Int) (j:Int) l=some l'∧l'.Perm l:=by
 have h1:(i:Int)<(l.length:Int):=by omega
 have h2:(j:Int)<(l.length:Int):=by omega
 refine⟨(l.set i l[j]).set j l[i],?_,List.set_set_perm hi hj⟩
 simp only[nN,cw,h1,h2,cK,cu,cH (t:=.int .i64) hi,cH (t:=.int .i64) hj,dT]
theorem upL:∀(n c:Nat)(d:Zd),c<n→c<d.length→d.length≤aF→W (tK n ((c:Int),d)) (CT (fun d'=>d'.Perm d) fun _=>False):=by
 intro n
 induction n with
 |zero=>intro c d h;omega
 |
  succ n ih=>
  intro c d hn hc hb
  unfold tK at ih ⊢
  rw[aK]
  generalize aL _ n=rec at ih ⊢
  have hB:=hB
  dsimp only
  cases c with
  |
   zero=>
   rw[aA (by decide)]
   exact wX.2 (kE.2 (List.Perm.refl _))
  |
   succ c=>
   have e1:aV (((c+1:Nat):Int) -1)=(c:Int):=by rw[dO (by omega) (by omega)];omega
   have e2:aV (Int.tdiv (c:Int) 2)=((c / 2:Nat):Int):=by
    have:Int.tdiv (c:Int) 2=((c / 2:Nat):Int):=rfl
    rw[this,dO (by omega) (by omega)]
   rw[e1,e2,aB (by rw[rf];omega),CE hc (by omega),aD]
   dsimp only
   by_cases hl:d[c+1]<d[c / 2]
   ·rw[aB (by simp[hl])]
    obtain⟨l',e,p⟩:=swap_eq (l:=d) (i:=c / 2) (j:=c+1) (by omega) hc
    rw[e,aD]
    exact(ih (c / 2) l' (by omega) (by rw[p.length_eq];omega) (by rw[p.length_eq];exact hb)).ct (fun _ h=>h.trans p) fun _ h=>h
   ·rw[aA (by simp[hl])]
    exact wX.2 (kE.2 (List.Perm.refl _))
theorem JL{a:Int}{l:Zd}(h:(l.length+1)*8≤aF):∃q,uw a l=some q∧q.Perm (a::l):=by
 have hB:=hB
 have e1:Cn a l=some (l++[a]):=aA h
 have e2:uv (l++[a])=some (((l++[a]).length:Int),l++[a]):=rfl
 have hl:(l++[a]).length=l.length+1:=by rw[cz];rfl
 have e3:aV (((l++[a]).length:Int) -1)=(l.length:Int):=by rw[hl,dO (by omega) (by omega)];omega
 obtain⟨o,ho,hp⟩:=upL dG l.length (l++[a]) (Jp (by omega)) (by omega) (by omega)
 unfold uw
 rw[e1,aD,e2,aD]
 dsimp only
 rw[e3]
 unfold Ck
 rw[ho]
 cases o with
 |aX d=>exact⟨d,rfl,(show d.Perm (l++[a]) from hp).trans (List.perm_append_singleton a l)⟩
 |ret r=>exact(show False from hp).elim
theorem YJ:∀(m:Nat)(q:Int)(o p:Nat)(r:Zd),o -p<m→p≤o→o≤r.length→r.length≤aF→
 W (pJ m (q,(o:Int),(p:Int),r)) (CT (fun u=>u.2.2.Perm r) fun _=>False):=by
 intro m
 induction m with
 |zero=>intro q o p r h;omega
 |
  succ m ih=>
  intro q o p r hm hpo hor hb
  unfold pJ at ih ⊢
  rw[aK]
  generalize aL _ m=rec at ih ⊢
  have hB:=hB
  dsimp only
  have e0:aV ((2:Int)*(p:Int))=((2*p:Nat):Int):=by rw[dO (by omega) (by omega)];omega
  have e1:aV (((2*p:Nat):Int)+1)=((2*p+1:Nat):Int):=by rw[dO (by omega) (by omega)];omega
  rw[e0,e1]
  by_cases h1:o≤2*p+1
  ·rw[aA (show decide ((o:Int)≤((2*p+1:Nat):Int))=true by simp only[rf];omega),aD,aA rfl]
   exact wX.2 (kE.2 (List.Perm.refl _))
  ·rw[aB (show¬decide ((o:Int)≤((2*p+1:Nat):Int))=true by simp only[rf];omega),aD,eG (by omega),aC]
   dsimp only
   have e2:aV (((2*p+1:Nat):Int)+1)=((2*p+2:Nat):Int):=by rw[dO (by omega) (by omega)];omega
   rw[e2]
   have key:∀j:Nat,p<j→j<o→W (Option.bind (pb (j:Int) (p:Int) r) fun⟨m',n⟩=>if(!m')=true then(some (.aX (q,(p:Int),n))) else(Option.bind (nN (p:Int) (j:Int) n) fun y9=>rec (q,(o:Int),(j:Int),y9))) (CT (fun u:Int×Int×Zd=>u.2.2.Perm r) fun _:Bool×Zd=>False):=by
    intro j hj1 hj2
    rw[CE (by omega) (by omega),aD]
    dsimp only
    split
    ·exact wX.2 (kE.2 (List.Perm.refl _))
    ·obtain⟨l',e,pm⟩:=swap_eq (l:=r) (i:=p) (j:=j) (by omega) (by omega)
     rw[e,aD]
     exact(ih q o j l' (by omega) (by omega) (by rw[pm.length_eq];omega) (by rw[pm.length_eq];exact hb)).ct (fun _ h=>h.trans pm) fun _ h=>h
   by_cases h2:2*p+2<o
   ·rw[aA (show decide (((2*p+2:Nat):Int)<(o:Int))=true by simp only[rf];omega),CE (by omega) (by omega),aD]
    dsimp only
    split
    ·rw[aC];exact key _ (by omega) h2
    ·rw[aC];exact key _ (by omega) (by omega)
   ·rw[aB (show¬decide (((2*p+2:Nat):Int)<(o:Int))=true by simp only[rf];omega),aC]
    exact key _ (by omega) (by omega)
theorem VD{l:Zd}(hne:l≠[])(hb:l.length≤aF):∃x q,pK l=some (x,q)∧(x::q).Perm l:=by
 have hB:=hB
 have hpos:0<l.length:=List.length_pos_iff.2 hne
 obtain⟨n,hn⟩:∃n,l.length=n+1:=⟨l.length -1,by omega⟩
 have e2:uv l=some ((l.length:Int),l):=rfl
 have e3:aV ((l.length:Int) -1)=(n:Int):=by rw[hn,dO (by omega) (by omega)];omega
 obtain⟨l',e4,p4⟩:=swap_eq (l:=l) (i:=0) (j:=n) (by omega) (by omega)
 have hl':l'.length=n+1:=by rw[p4.length_eq,hn]
 obtain⟨o,ho,hp⟩:=YJ dG 0 n 0 l' (Jp (by omega)) (by omega) (by omega) (by omega)
 cases o with
 |ret r=>exact(show False from hp).elim
 |
  aX d=>
  obtain⟨d1,d2,c⟩:=d
  have pc:c.Perm l':=hp
  have hc:c.length=n+1:=by rw[pc.length_eq,hl']
  have e5:yb 0 (n:Int) l'=some (decide (d1<d2),c):=by
   unfold yb
   have ho':pJ dG ((0:Int),(n:Int),(0:Int),l')=some (.aX (d1,d2,c)):=ho
   rw[ho',aC]
  have e6:yc c=some (c[n]'(by omega),c.take n):=by
   have h7:aV ((c.length:Int) -1)=(n:Int):=by rw[hc,dO (by omega) (by omega)];omega
   have h8:(n:Int)<(c.length:Int):=by omega
   have h9:(n:Int)≤(c.length:Int):=by omega
   simp only[yc,h7,cw,h8,h9,cu,cH (t:=.int .i64) (show n<c.length by omega),dT,Nat.sub_zero]
  refine⟨c[n]'(by omega),c.take n,?_,?_⟩
  ·unfold pK
   rw[e2,aD]
   dsimp only
   rw[e3]
   have e4':nN (0:Int) (n:Int) l=some l':=e4
   rw[e4',aD,e5,aD]
   dsimp only
   rw[e6,aD]
  ·have h:c.take n++[c[n]'(by omega)]=c:=by
    have:=oA n c
    rw[iu (show n<c.length by omega),qE (by omega)] at this
    exact this
   have q:=List.perm_append_singleton (c[n]'(by omega)) (c.take n)
   rw[h] at q
   exact q.symm.trans (pc.trans p4)
theorem s9{α:Type}:∀{l:List α}{i:Nat}(h:i<l.length),(l[i]::l.eraseIdx i).Perm l
 |x::l,0,_=>List.Perm.refl _
 |
  x::l,i+1,h=>by
  have h':i<l.length:=by rw[db] at h;omega
  exact(List.Perm.swap x l[i] _).trans ((s9 h').cons x)
def nd(g:gN)(h:Int):Zr:=bC (aO (.int .i64) (.map (.int .i64) .bool) h (bC g.2.1))
def ks(g:gN)(h:Int):Zd:=(nd g h).map (·.1)
def nR(e:ZX)(k:Zd)(f:Int):ZX:=e.mapIdx fun j row=>if(j:Int)∈k then row++[f] else row
theorem ow(e:ZX)(k:Zd)(f:Int):(nR e k f).length=e.length:=by unfold nR;rw[List.length_mapIdx]
theorem Li(e:ZX)(f:Int):nR e [] f=e:=by
 refine List.ext_getElem (ow e [] f) fun j h1 h2=>?_
 simp only[nR,List.getElem_mapIdx,List.not_mem_nil,dc]
theorem EA{e:ZX}{k k':Zd}{f:Int}(h:∀x,x∈k↔x∈k'):nR e k f=nR e k' f:=by
 unfold nR
 congr 1
 funext j row
 simp only[h]
theorem Lj{e:ZX}{k:Zd}{f:Int}{x:Nat}(hx:x<e.length)(hk:(x:Int)∉k):nR (e.set x (e.getD x []++[f])) k f=nR e ((x:Int)::k) f:=by
 refine List.ext_getElem (by rw[ow,ow,cK]) fun j h1 h2=>?_
 have hj:j<e.length:=by rw[ow] at h2;exact h2
 simp only[nR,List.getElem_mapIdx,List.getElem_set,eJ]
 by_cases hxj:x=j
 ·subst hxj
  rw[aB hk,aA rfl,aA (Or.inl rfl),uE,ri hx,Option.getD_some]
 ·have hne:¬((j:Int)=(x:Int)):=by omega
  simp only[aB hxj,hne,false_or]
theorem YK(f b c:Int)(d:gN):∀(n:Nat)(a:Zr)(e:ZX),a.length<n→(a.map (·.1)).Nodup→(∀x∈a.map (·.1),0≤x∧x<(e.length:Int))→(∀x:Nat,(x:Int)∈a.map (·.1)→((e.getD x []).length+1)*8≤aF)→
 o9 n (f,b,c,d,e,a)=some (.aX (b,c,d,nR e (a.map (·.1)) f)):=by
 intro n
 induction n with
 |zero=>intro a e h;omega
 |
  succ n ih=>
  intro a e hn hd hr hs
  unfold o9 at ih ⊢
  rw[aK]
  generalize aL _ n=rec at ih ⊢
  dsimp only
  cases hA:a with
  |
   nil=>
   rw[aA (show List.isEmpty ([]:Zr)=true from rfl)]
   simp only[List.map_nil,Li]
  |
   cons y l=>
   rw[←hA,aB (by rw[hA];simp)]
   refine Lh (by rw[hA];simp) fun i hi=>?_
   have p:=s9 hi
   have pm:=p.map (·.1)
   have hd':((a[i]::a.eraseIdx i).map (·.1)).Nodup:=pm.nodup_iff.2 hd
   rw[fe,lr] at hd'
   have apF:a[i].1∈a.map (·.1):=List.mem_map_of_mem (lq hi)
   obtain⟨h0,h1⟩:=hr _ apF
   obtain⟨x,hx⟩:∃x:Nat,a[i].1=(x:Int):=⟨a[i].1.toNat,by omega⟩
   have hxl:x<e.length:=by omega
   rw[hx] at h0 h1 hd' apF ⊢
   have hs1:=hs x apF
   have hsz:(List.length (List.getD e x [])+List.length [f])*8≤aF:=hs1
   simp only[h0,h1,cu,dT,aA hsz]
   rw[ih]
   ·rw[Lj hxl hd'.1]
    refine congrArg (fun z=>some (dR.aX (b,c,d,z))) (EA fun z=>?_)
    have:=(pm.mem_iff (a:=z))
    rw[fe,hx] at this
    exact this
   ·have:=p.length_eq
    rw[db] at this
    omega
   ·exact hd'.2
   ·intro z hz
    rw[cK]
    exact hr z (pm.mem_iff.1 (by rw[fe];exact dF _ hz))
   ·intro z hz
    have hne:x≠z:=fun h=>hd'.1 (h▸hz)
    rw[uE,List.getElem?_set_ne hne,←uE]
    exact hs z (pm.mem_iff.1 (by rw[fe];exact dF _ hz))
structure GG(g:gN)(m:Nat):Prop where
 many:g.1=(m:Int)
 small:m≤1000000
 nodup:∀h,(ks g h).Nodup
 range:∀h x,x∈ks g h→0≤x∧x<(m:Int)
def us(g:gN)(m e:Nat):ZX:=(List.range m).map fun j:Nat=>((List.range e).filter fun h:Nat=>decide ((j:Int)∈ks g (h:Int))).map fun h:Nat=>(h:Int)
theorem vV(g:gN)(m e:Nat):(us g m e).length=m:=by simp[us]
theorem Rj(g:gN)(m e:Nat):nR (us g m e) (ks g (e:Int)) (e:Int)=us g m (e+1):=by
 refine List.ext_getElem (by rw[ow,vV,vV]) fun j h1 h2=>?_
 simp only[nR,us,List.getElem_mapIdx,List.getElem_map,List.getElem_range,List.range_succ,List.filter_append,qD,js,List.filter_nil]
 by_cases h:(j:Int)∈ks g (e:Int)
 ·simp[h]
 ·simp[h]
theorem Rk(g:gN)(m:Nat):us g m 0=List.replicate m []:=by
 refine List.ext_getElem (by rw[vV,fY]) fun j h1 h2=>?_
 simp[us]
theorem VE{g:gN}{m e x:Nat}:((us g m e).getD x []).length≤e:=by
 rw[uE]
 by_cases h:x<(us g m e).length
 ·rw[ri h,Option.getD_some]
  simp only[us,List.getElem_map,gm]
  exact cS (nS _ _) (by simp)
 ·rw[List.getElem?_eq_none (by omega)]
  simp
theorem YL{g:gN}{m:Nat}(hg:GG g m):∀(n e:Nat),m -e<n→e≤m→pa n ((m:Int),(e:Int),g,us g m e)=some (.aX (us g m m)):=by
 intro n
 have hB:=hB
 have hsm:=hg.small
 induction n with
 |zero=>intro e h;omega
 |
  succ n ih=>
  intro e hn he
  unfold pa at ih ⊢
  rw[aK]
  generalize aL _ n=rec at ih ⊢
  dsimp only
  by_cases h:e<m
  ·rw[aA (show decide ((e:Int)<(m:Int))=true by simp only[rf];omega)]
   have key:=YK (e:Int) (m:Int) (e:Int) g ((nd g (e:Int)).length+1) (nd g (e:Int)) (us g m e) (by omega) (hg.nodup _) (fun x hx=>by rw[vV];exact hg.range _ x hx) (fun x _=>by have:=VE (g:=g) (m:=m) (e:=e) (x:=x);omega)
   unfold nd at key
   rw[key,aC]
   dsimp only
   rw[show aV ((e:Int)+1)=((e+1:Nat):Int) from bS (by omega),show nR (us g m e) ((bC (aO (.int .i64) (.map (.int .i64) .bool) (e:Int) (bC g.2.1))).map (·.1)) (e:Int)=us g m (e+1) from Rj g m e]
   exact ih (e+1) (by omega) (by omega)
  ·have:e=m:=by omega
   subst this
   rw[eG (by omega)]
theorem MC{g:gN}{m:Nat}(hg:GG g m):Ev g=some (us g m m):=by
 have hB:=hB
 have hsm:=hg.small
 unfold Ev
 rw[hg.many,dH m,aA (fL _),aA (by omega),dT,←Rk g]
 have:=YL hg (m+1) 0 (by omega) (by omega)
 have h0:pa (m+1) ((m:Int),(0:Int),g,us g m 0)=some (.aX (us g m m)):=this
 rw[h0,aC]
theorem jR:∀(m:Nat)(l:Zd),l.Nodup→(∀x∈l,0≤x∧x<(m:Int))→l.length≤m:=by
 intro m
 induction m with
 |
  zero=>
  intro l _ h
  cases l with
  |nil=>exact cT _
  |cons x l=>have:=h x (dx ..);omega
 |
  succ m ih=>
  intro l hd h
  by_cases hm:(m:Int)∈l
  ·have h1:=ih (l.erase (m:Int)) (hd.erase _) fun x hx=>by
    have:=(hd.mem_erase_iff).1 hx
    have:=h x this.2
    omega
   have h2:=List.length_erase_of_mem hm
   have h3:=List.length_pos_of_mem hm
   omega
  ·have:=ih l hd fun x hx=>by
    have h1:=h x hx
    have:x≠(m:Int):=fun e=>hm (e▸hx)
    omega
   omega
def Hw(g:gN)(out:Zd)(h:Int):Nat:=((ks g h).filter fun x=>decide (x∉out)).length
theorem JM(g:gN)(h:Int):Hw g [] h=(ks g h).length:=by simp[Hw]
theorem VF{g:gN}{m:Nat}(hg:GG g m)(out:Zd)(h:Int):Hw g out h≤m:=
 cS (nS _ _) (jR m _ (hg.nodup h) (hg.range h))
theorem Hx:∀(l:Zd)(out:Zd)(x:Int),l.Nodup→x∉out→
 (l.filter fun z=>decide (z∉out)).length=(l.filter fun z=>decide (z∉out++[x])).length+(if x∈l then 1 else 0):=by
 intro l
 induction l with
 |nil=>intro out x _ _;rfl
 |
  cons y l ih=>
  intro out x hd hx
  rw[lr] at hd
  have:=ih out x hd.2 hx
  by_cases hyx:y=x
  ·subst hyx
   rw[aB hd.1] at this
   rw[List.filter_cons_of_pos (by simpa using hx),List.filter_cons_of_neg (by simp),aA (dx ..),db,this]
  ·have apF:(x∈y::l)=(x∈l):=by simp[Ne.symm hyx]
   simp only[apF]
   by_cases hyo:y∈out
   ·rw[List.filter_cons_of_neg (by simp[hyo]),List.filter_cons_of_neg (by simp[hyo])]
    exact this
   ·rw[List.filter_cons_of_pos (by simp[hyo]),List.filter_cons_of_pos (by simp[hyo,hyx]),db,db,this]
    omega
theorem JN{g:gN}{m:Nat}(hg:GG g m){out:Zd}{x h:Int}(hx:x∉out):Hw g out h=Hw g (out++[x]) h+if x∈ks g h then 1 else 0:=
 Hx _ _ _ (hg.nodup h) hx
abbrev Yc(y:YC):ZN:=fun d=>kq y d.1 d.2.1 d.2.2.1 d.2.2.2.1 d.2.2.2.2.1
theorem YM(y:YC)(x:Int)(acc:Zd)(h:(acc.length+1)*8≤aF):kq y x y 0 (y.gs 1) acc=some (true,y,0,y.gs 1,acc++[x]):=by
 unfold kq
 rw[gn]
 simp only[cu,db,fZ,d9,aA h,aD,Nat.beq]
structure L3(g:gN)(m a:Nat)(c e:Zd):Prop where
 len:c.length=m
 num:∀h<a,c[h]? =some ((ks g (h:Int)).length:Int)
 oz:e.Nodup
 mem:∀x,x∈e↔∃h:Nat,h<a∧x=(h:Int)∧(ks g (h:Int)).length=0
theorem YN{g:gN}{m:Nat}(hg:GG g m)(U:ZX):∀(n a:Nat)(c e:Zd),m -a<n→a≤m→L3 g m a c e→
 ∃c' e',L3 g m m c' e'∧∀(y:YC)(k:Zd),il y.l (Yc y) n (y.l,g,U,(m:Int),(a:Int),y,0,y.gs 1,k,c,e)=some (.aX (y.l,U,y,0,y.gs 1,k,c',e')):=by
 intro n
 have hB:=hB
 have hsm:=hg.small
 induction n with
 |zero=>intro a c e h;omega
 |
  succ n ih=>
  intro a c e hn ha hL
  have hstep:∀y k,il y.l (Yc y) (n+1) (y.l,g,U,(m:Int),(a:Int),y,0,y.gs 1,k,c,e)=_:=fun y k=>by unfold il;rw[aK]
  by_cases h:a<m
  ·have hl:a<c.length:=by rw[hL.len];exact h
   have d1:decide ((a:Int)<(m:Int))=true:=by simp only[rf];omega
   have d2:((a:Int)<(c.length:Int))=True:=by simp only[eq_iff_iff,iff_true];omega
   have e0:(List.length (bC (aO (.int .i64) (.map (.int .i64) .bool) (a:Int) (bC g.2.1))):Int)=((ks g (a:Int)).length:Int):=by simp[ks,nd]
   generalize hc2:c.set a ((ks g (a:Int)).length:Int)=c2
   have hc2l:c2.length=m:=by rw[←hc2,cK,hL.len]
   have ao9:nth (.int .i64) c2 (a:Int)=((ks g (a:Int)).length:Int):=by
    rw[cH (t:=.int .i64) (show a<c2.length by omega)]
    subst hc2
    exact List.getElem_set_self ..
   have d3:((a:Int)<(c2.length:Int))=True:=by simp only[eq_iff_iff,iff_true];omega
   have hnum:∀z<a+1,c2[z]? =some ((ks g (z:Int)).length:Int):=by
    intro z hz
    subst hc2
    by_cases hza:z=a
    ·subst hza
     rw[List.getElem?_set_self hl]
    ·rw[List.getElem?_set_ne (Ne.symm hza)]
     exact hL.num z (by omega)
   have hw:aV ((a:Int)+1)=((a+1:Nat):Int):=bS (by omega)
   by_cases hz:(ks g (a:Int)).length=0
   ·have hle:e.length≤m:=jR m e hL.oz fun x hx=>by
     obtain⟨h',h1,h2,_⟩:=(hL.mem x).1 hx
     omega
    obtain⟨e2,he2,p⟩:=JL (a:=(a:Int)) (l:=e) (by omega)
    have hna:(a:Int)∉e:=fun hm=>by
     obtain⟨h',h1,h2,_⟩:=(hL.mem _).1 hm
     omega
    obtain⟨c',e',hL',hf⟩:=ih (a+1) c2 e2 (by omega) (by omega) ⟨hc2l,hnum,p.nodup_iff.2 (List.nodup_cons.2 ⟨hna,hL.oz⟩),fun x=>by
     rw[p.mem_iff,eJ,hL.mem]
     constructor
     ·rintro(rfl|⟨h',h1,h2,h3⟩)
      ·exact⟨a,by omega,rfl,hz⟩
      ·exact⟨h',by omega,h2,h3⟩
     ·rintro⟨h',h1,h2,h3⟩
      by_cases hh:h'=a
      ·subst hh;exact Or.inl h2
      ·exact Or.inr ⟨h',by omega,h2,h3⟩⟩
    refine⟨c',e',hL',fun y k=>?_⟩
    rw[hstep]
    have hf:=hf y k
    unfold il at hf
    have d4:decide (((ks g (a:Int)).length:Int)=(0:Int))=true:=by rw[hz];rfl
    simp only[d1,cw,d2,e0,dT,hc2,d3,ao9,d4,cu,he2,aD,hw]
    exact hf
   ·obtain⟨c',e',hL',hf⟩:=ih (a+1) c2 e (by omega) (by omega) ⟨hc2l,hnum,hL.oz,fun x=>by
     rw[hL.mem]
     constructor
     ·rintro⟨h',h1,h2,h3⟩
      exact⟨h',by omega,h2,h3⟩
     ·rintro⟨h',h1,h2,h3⟩
      by_cases hh:h'=a
      ·subst hh;exact absurd h3 hz
      ·exact⟨h',by omega,h2,h3⟩⟩
    refine⟨c',e',hL',fun y k=>?_⟩
    rw[hstep]
    have hf:=hf y k
    unfold il at hf
    have d4:decide (((ks g (a:Int)).length:Int)=(0:Int))=false:=cD (by omega)
    simp only[d1,cw,d2,e0,dT,hc2,d3,ao9,d4,cu,dv,dc,hw]
    exact hf
  ·have:a=m:=by omega
   subst this
   refine⟨c,e,hL,fun y k=>?_⟩
   rw[hstep]
   have d1:decide ((a:Int)<(a:Int))=false:=cD (by omega)
   simp only[d1,dv,dc]
structure L13(m:Nat)(row:Zd)(op0:Nat→Nat)(q0:Zd)(a:Nat)(d e:Zd):Prop where
 len:d.length=m
 num:∀h<m,d[h]? =some ((op0 h:Int) -if(h:Int)∈row.take a then 1 else 0)
 oz:e.Nodup
 mem:∀x,x∈e↔x∈q0∨∃h:Nat,x=(h:Int)∧(h:Int)∈row.take a∧op0 h=1
theorem VG{g:gN}{m:Nat}(hg:GG g m)(U:ZX)(row:Zd)(op0:Nat→Nat)(q0:Zd)
 (hrd:row.Nodup) (hrr:∀x∈row,∃h:Nat,h<m∧x=(h:Int)∧1≤op0 h∧x∉q0) (hop:∀h,op0 h≤m) (hq:∀x∈q0,0≤x∧x<(m:Int)):
 ∀(n a:Nat)(d e:Zd),row.length -a<n→a≤row.length→L13 m row op0 q0 a d e→
 ∃d' e',L13 m row op0 q0 row.length d' e'∧∀(y:YC)(k:Zd),gw y.l (Yc y) n (y.l,U,row,(row.length:Int),(a:Int),y,0,y.gs 1,d,k,e)=some (.aX (y.l,U,y,0,y.gs 1,d',k,e')):=by
 intro n
 have hB:=hB
 have hsm:=hg.small
 have hrl:row.length≤m:=jR m row hrd fun x hx=>by obtain⟨h,h1,h2,_⟩:=hrr x hx;omega
 induction n with
 |zero=>intro a d e h;omega
 |
  succ n ih=>
  intro a d e hn ha hL
  have hstep:∀y k,gw y.l (Yc y) (n+1) (y.l,U,row,(row.length:Int),(a:Int),y,0,y.gs 1,d,k,e)=_:=fun y k=>by unfold gw;rw[aK]
  by_cases h:a<row.length
  ·have d2:((a:Int)<(row.length:Int))=True:=by simp only[eq_iff_iff,iff_true];omega
   obtain⟨u,hu,hru,hu1,huq⟩:=hrr row[a] (lq h)
   have hn1:nth (.int .i64) row (a:Int)=(u:Int):=by rw[cH (t:=.int .i64) h,hru]
   have hul:u<d.length:=by rw[hL.len];exact hu
   have hnt:(u:Int)∉row.take a:=fun hm=>by
    have h1:=oA a row
    rw[←h1,List.nodup_append] at hrd
    have h2:(u:Int)∈row.drop a:=by rw[iu h,hru];exact dx ..
    exact hrd.2.2 _ hm _ h2 rfl
   have hdu:nth (.int .i64) d (u:Int)=(op0 u:Int):=by
    rw[cH (t:=.int .i64) hul]
    have:=hL.num u hu
    rw[ri hul,aB hnt,Int.sub_zero] at this
    exact fK this
   have hw1:aV ((op0 u:Int) -1)=(op0 u:Int) -1:=dO (by omega) (by have:=hop u;omega)
   have d3:((u:Int)<(d.length:Int))=True:=by simp only[eq_iff_iff,iff_true];omega
   generalize hc2:d.set u ((op0 u:Int) -1)=d2'
   have hc2l:d2'.length=m:=by rw[←hc2,cK,hL.len]
   have d4:((u:Int)<(d2'.length:Int))=True:=by simp only[eq_iff_iff,iff_true];omega
   have ao9:nth (.int .i64) d2' (u:Int)=(op0 u:Int) -1:=by
    rw[cH (t:=.int .i64) (show u<d2'.length by omega)]
    subst hc2
    exact List.getElem_set_self ..
   have htk:∀z:Int,z∈row.take (a+1)↔z∈row.take a∨z=(u:Int):=fun z=>by
    rw[List.take_succ_eq_append_getElem h,jT,ln,hru]
   have hnum:∀z<m,d2'[z]? =some ((op0 z:Int) -if(z:Int)∈row.take (a+1) then 1 else 0):=by
    intro z hz
    subst hc2
    by_cases hzu:z=u
    ·subst hzu
     rw[List.getElem?_set_self hul,aA ((htk _).2 (Or.inr rfl))]
    ·rw[List.getElem?_set_ne (Ne.symm hzu),hL.num z hz]
     have:((z:Int)∈row.take (a+1))=((z:Int)∈row.take a):=by
      rw[eq_iff_iff,htk]
      exact⟨fun h=>h.resolve_right (by omega),Or.inl⟩
     simp only[this]
   have hw:aV ((a:Int)+1)=((a+1:Nat):Int):=bS (by omega)
   by_cases hz:op0 u=1
   ·have hna:(u:Int)∉e:=fun hm=>by
     rcases(hL.mem _).1 hm with h1|⟨h',h1,h2,_⟩
     ·exact huq (hru▸h1)
     ·have:h'=u:=by omega
      subst this;exact hnt h2
    have hle:e.length≤m:=jR m e hL.oz fun x hx=>by
     rcases(hL.mem x).1 hx with h1|⟨h',h1,h2,_⟩
     ·exact hq x h1
     ·obtain⟨h'',h3,h4,_⟩:=hrr _ (List.mem_of_mem_take h2)
      omega
    obtain⟨e2,he2,p⟩:=JL (a:=(u:Int)) (l:=e) (by omega)
    obtain⟨d',e',hL',hf⟩:=ih (a+1) d2' e2 (by omega) (by omega) ⟨hc2l,hnum,p.nodup_iff.2 (List.nodup_cons.2 ⟨hna,hL.oz⟩),fun x=>by
     rw[p.mem_iff,eJ,hL.mem]
     constructor
     ·rintro(rfl|h1|⟨h',h1,h2,h3⟩)
      ·exact Or.inr ⟨u,rfl,(htk _).2 (Or.inr rfl),hz⟩
      ·exact Or.inl h1
      ·exact Or.inr ⟨h',h1,(htk _).2 (Or.inl h2),h3⟩
     ·rintro(h1|⟨h',h1,h2,h3⟩)
      ·exact Or.inr (Or.inl h1)
      ·rcases(htk _).1 h2 with h2|h2
       ·exact Or.inr (Or.inr ⟨h',h1,h2,h3⟩)
       ·exact Or.inl (h1.trans h2)⟩
    refine⟨d',e',hL',fun y k=>?_⟩
    rw[hstep]
    have hf:=hf y k
    unfold gw at hf
    have d5:decide ((op0 u:Int) -1=(0:Int))=true:=bQ (by omega)
    simp only[cw,d2,hn1,hdu,hw1,d3,dT,hc2,d4,ao9,d5,cu,he2,aD,hw]
    exact hf
   ·obtain⟨d',e',hL',hf⟩:=ih (a+1) d2' e (by omega) (by omega) ⟨hc2l,hnum,hL.oz,fun x=>by
     rw[hL.mem]
     constructor
     ·rintro(h1|⟨h',h1,h2,h3⟩)
      ·exact Or.inl h1
      ·exact Or.inr ⟨h',h1,(htk _).2 (Or.inl h2),h3⟩
     ·rintro(h1|⟨h',h1,h2,h3⟩)
      ·exact Or.inl h1
      ·rcases(htk _).1 h2 with h2|h2
       ·exact Or.inr ⟨h',h1,h2,h3⟩
       ·have:h'=u:=by omega
        subst this;exact absurd h3 hz⟩
    refine⟨d',e',hL',fun y k=>?_⟩
    rw[hstep]
    have hf:=hf y k
    unfold gw at hf
    have d5:decide ((op0 u:Int) -1=(0:Int))=false:=cD (by omega)
    simp only[cw,d2,hn1,hdu,hw1,d3,dT,hc2,d4,ao9,d5,cu,dv,dc,hw]
    exact hf
  ·have:a=row.length:=by omega
   subst this
   refine⟨d,e,hL,fun y k=>?_⟩
   rw[hstep]
   have d1:decide ((row.length:Int)<(row.length:Int))=false:=cD (by omega)
   simp only[d1,dv,dc]
structure KI(g:gN)(m:Nat)(q out op:Zd):Prop where
 len:op.length=m
 num:∀h<m,op[h]? =some (Hw g out (h:Int):Int)
 oz:(q++out).Nodup
 AY:∀x∈q++out,0≤x∧x<(m:Int)
 zero:∀h:Nat,h<m→((h:Int)∈q++out↔Hw g out (h:Int)=0)
 pre:∀i(hi:i<out.length),∀x∈ks g out[i],x∈out.take i
structure KO(g:gN)(m:Nat)(out:Zd):Prop where
 oz:out.Nodup
 AY:∀x∈out,0≤x∧x<(m:Int)
 pre:∀i(hi:i<out.length),∀x∈ks g out[i],x∈out.take i
theorem VH{g:gN}{m x:Nat}(hx:x<m):nth (.slice 8 (.int .i64)) (us g m m) (x:Int)=((List.range m).filter fun h:Nat=>decide ((x:Int)∈ks g (h:Int))).map fun h:Nat=>(h:Int):=by
 rw[cH (t:=.slice 8 (.int .i64)) (show x<(us g m m).length by rw[vV];exact hx)]
 simp only[us,List.getElem_map,List.getElem_range]
theorem YO{g:gN}{m:Nat}(hg:GG g m):∀(n:Nat)(q out op:Zd),m -out.length<n→KI g m q out op→
 ∃out',KO g m out'∧∀y:YC,gI y.l (Yc y) n (y.l,us g m m,y,0,y.gs 1,op,q,out)=some (.aX (y,0,y.gs 1,out')):=by
 intro n
 have hB:=hB
 have hsm:=hg.small
 induction n with
 |zero=>intro q out op h;omega
 |
  succ n ih=>
  intro q out op hn hK
  have hstep:∀y,gI y.l (Yc y) (n+1) (y.l,us g m m,y,0,y.gs 1,op,q,out)=_:=fun y=>by unfold gI;rw[aK]
  have hqn:q.Nodup:=(List.nodup_append.1 hK.oz).1
  have hon:out.Nodup:=(List.nodup_append.1 hK.oz).2.1
  have hdis:=(List.nodup_append.1 hK.oz).2.2
  have hor:∀x∈out,0≤x∧x<(m:Int):=fun x hx=>hK.AY x (iR _ hx)
  by_cases hq:q= []
  ·subst hq
   refine⟨out,⟨hon,hor,hK.pre⟩,fun y=>?_⟩
   rw[hstep]
   have e1:AX []=some (0:Int):=rfl
   simp only[e1,aD,show decide ((0:Int)<0)=false from rfl,dv,dc]
  ·have hql:q.length≤m:=jR m q hqn fun x hx=>hK.AY x (iA _ hx)
   obtain⟨x0,q1,hpop,p⟩:=VD hq (by omega)
   have hxq:x0∈q:=p.mem_iff.1 (dx ..)
   obtain⟨x,hx,rfl⟩:∃x:Nat,x<m∧x0=(x:Int):=by
    have:=hK.AY x0 (iA _ hxq)
    exact⟨x0.toNat,by omega,by omega⟩
   have hpn:=List.nodup_cons.1 (p.nodup_iff.2 hqn)
   have hxo:(x:Int)∉out:=fun h=>hdis _ hxq _ h rfl
   have hx0:Hw g out (x:Int)=0:=(hK.zero x hx).1 (iA _ hxq)
   have hol:(out++[(x:Int)]).length≤m:=jR m _ (by
    rw[List.nodup_append]
    refine⟨hon,by simp,fun a ha b hb=>?_⟩
    rw[ln] at hb
    subst hb
    exact fun e=>hxo (e▸ha)) fun z hz=>by
    rcases List.mem_append.1 hz with h|h
    ·exact hor z h
    ·rw[ln] at h;omega
   rw[cz,bF] at hol
   generalize hrow:(((List.range m).filter fun h:Nat=>decide ((x:Int)∈ks g (h:Int))).map fun h:Nat=>(h:Int))=row
   have hrm:∀h:Nat,(h:Int)∈row↔h<m∧(x:Int)∈ks g (h:Int):=fun h=>by
    rw[←hrow,List.mem_map]
    constructor
    ·rintro⟨h',h1,h2⟩
     have:h'=h:=by omega
     subst this
     have:=List.mem_filter.1 h1
     exact⟨List.mem_range.1 this.1,bX this.2⟩
    ·rintro⟨h1,h2⟩
     exact⟨h,List.mem_filter.2 ⟨List.mem_range.2 h1,bQ h2⟩,rfl⟩
   have hrn:row.Nodup:=by
    rw[←hrow]
    refine List.Pairwise.map _ (fun a b hab=>?_) (List.nodup_range.filter _)
    exact fun e=>hab (by omega)
   have hc1:∀h:Nat,(x:Int)∈ks g (h:Int)→1≤Hw g out (h:Int):=fun h hm=>by
    rw[JN hg hxo,aA hm];omega
   have hrr:∀z∈row,∃h:Nat,h<m∧z=(h:Int)∧1≤Hw g out (h:Int)∧z∉q1:=fun z hz=>by
    obtain⟨h,h1,h2⟩:=List.mem_map.1 (hrow▸hz)
    subst h2
    have h3:=(hrm h).1 hz
    refine⟨h,h3.1,rfl,hc1 h h3.2,fun hm=>?_⟩
    have:=(hK.zero h h3.1).1 (iA _ (p.mem_iff.1 (dF _ hm)))
    have:=hc1 h h3.2
    omega
   obtain⟨d',e',hL,hf⟩:=VG hg (us g m m) row (fun h=>Hw g out (h:Int)) q1 hrn hrr (fun h=>VF hg _ _) (fun z hz=>hK.AY z (iA _ (p.mem_iff.1 (dF _ hz))))
    (row.length+1) 0 op q1 (by omega) (by omega) ⟨hK.len,fun h hh=>by rw[hK.num h hh];simp,hpn.2,fun z=>by simp⟩
   have hK':KI g m e' (out++[(x:Int)]) d':=by
    have hcnt:∀h:Nat,Hw g out (h:Int)=Hw g (out++[(x:Int)]) (h:Int)+if(x:Int)∈ks g (h:Int) then 1 else 0:=fun h=>JN hg hxo
    have apF:∀z,z∈e'↔z∈q1∨∃h:Nat,z=(h:Int)∧(h:Int)∈row∧Hw g out (h:Int)=1:=fun z=>by
     have:=hL.mem z
     rw[List.take_length] at this
     exact this
    have hq1:∀z,z∈q1→z∈q∧z≠(x:Int):=fun z hz=>⟨p.mem_iff.1 (dF _ hz),fun e=>hpn.1 (e▸hz)⟩
    refine⟨hL.len,fun h hh=>?_,?_,fun z hz=>?_,fun h hh=>?_,fun i hi z hz=>?_⟩
    ·have:=hL.num h hh
     rw[List.take_length] at this
     rw[this]
     have h1:=hcnt h
     by_cases hxk:(x:Int)∈ks g (h:Int)
     ·rw[aA hxk] at h1
      rw[aA ((hrm h).2 ⟨hh,hxk⟩)]
      exact congrArg some (by omega)
     ·rw[aB hxk] at h1
      rw[aB (fun hm=>hxk ((hrm h).1 hm).2)]
      exact congrArg some (by omega)
    ·rw[List.nodup_append]
     refine⟨hL.oz,?_,fun a ha b hb=>?_⟩
     ·rw[List.nodup_append]
      refine⟨hon,by simp,fun a ha b hb=>?_⟩
      rw[ln] at hb
      subst hb
      exact fun e=>hxo (e▸ha)
     ·rintro rfl
      rcases(apF a).1 ha with h1|⟨h,h1,h2,h3⟩
      ·rcases List.mem_append.1 hb with h4|h4
       ·exact hdis _ (hq1 a h1).1 _ h4 rfl
       ·exact(hq1 a h1).2 (List.mem_singleton.1 h4)
      ·subst h1
       have h4:(h:Int)∈q++out:=by
        rcases List.mem_append.1 hb with h5|h5
        ·exact iR _ h5
        ·rw[List.mem_singleton.1 h5];exact iA _ hxq
       have:=(hK.zero h ((hrm h).1 h2).1).1 h4
       omega
    ·rcases List.mem_append.1 hz with h1|h1
     ·rcases(apF z).1 h1 with h2|⟨h,h2,h3,_⟩
      ·exact hK.AY z (iA _ (hq1 z h2).1)
      ·have:=((hrm h).1 h3).1;omega
     ·rcases List.mem_append.1 h1 with h2|h2
      ·exact hor z h2
      ·rw[ln] at h2;omega
    ·have h1:=hcnt h
     have h2:=hK.zero h hh
     rw[jT,jT,ln,apF]
     constructor
     ·rintro((h3|⟨h',h3,h4,h5⟩)|h3|h3)
      ·have:=h2.1 (iA _ (hq1 _ h3).1);omega
      ·have:h'=h:=by omega
       subst this
       rw[aA ((hrm _).1 h4).2] at h1;omega
      ·have:=h2.1 (iR _ h3);omega
      ·have:=h2.1 (iA _ (h3▸hxq));omega
     ·intro h3
      by_cases hz0:Hw g out (h:Int)=0
      ·rcases List.mem_append.1 (h2.2 hz0) with h4|h4
       ·rcases List.mem_cons.1 (p.mem_iff.2 h4) with h5|h5
        ·exact Or.inr (Or.inr h5)
        ·exact Or.inl (Or.inl h5)
       ·exact Or.inr (Or.inl h4)
      ·by_cases hxk:(x:Int)∈ks g (h:Int)
       ·rw[aA hxk] at h1
        exact Or.inl (Or.inr ⟨h,rfl,(hrm h).2 ⟨hh,hxk⟩,by omega⟩)
       ·rw[aB hxk] at h1;omega
    ·by_cases hio:i<out.length
     ·rw[yV hio] at hz
      rw[EM (by omega)]
      exact hK.pre i hio z hz
     ·have hi':i=out.length:=by rw[cz,bF] at hi;omega
      subst hi'
      rw[uD (cT _)] at hz
      simp only[Nat.sub_self,List.getElem_singleton] at hz
      rw[EM (cT _),List.take_length]
      by_cases hzo:z∈out
      ·exact hzo
      ·have:z∈(ks g (x:Int)).filter fun w=>decide (w∉out):=List.mem_filter.2 ⟨hz,bQ hzo⟩
       have h9:((ks g (x:Int)).filter fun w=>decide (w∉out))= []:=List.length_eq_zero_iff.1 hx0
       rw[h9] at this
       exact absurd this List.not_mem_nil
   obtain⟨out',hO,hr⟩:=ih e' (out++[(x:Int)]) d' (by rw[cz,bF];omega) hK'
   refine⟨out',hO,fun y=>?_⟩
   rw[hstep]
   have hr:=hr y
   have hf:=hf y (out++[(x:Int)])
   unfold gI at hr
   have e1:AX q=some (q.length:Int):=rfl
   have d1:decide ((0:Int)<(q.length:Int))=true:=bQ (by have:=List.length_pos_iff.2 hq;omega)
   have e2:Yc y ((x:Int),y,0,y.gs 1,out,())=some (true,y,0,y.gs 1,out++[(x:Int)]):=YM y (x:Int) out (by omega)
   have d2:((x:Int)<((us g m m).length:Int))=True:=by rw[vV];simp only[eq_iff_iff,iff_true];omega
   simp only[e1,aD,d1,cu,hpop,e2,tj,dv,dc,aC,cw,d2,VH hx,hrow,dT]
   have hf':gw y.l (Yc y) (row.length+1) (y.l,us g m m,row,(row.length:Int),(0:Int),y,0,y.gs 1,op,out++[(x:Int)],q1)=some (.aX (y.l,us g m m,y,0,y.gs 1,d',out++[(x:Int)],e')):=hf
   rw[hf',aC]
   exact hr
theorem YP{g:gN}{m:Nat}(hg:GG g m):∃out,KO g m out∧∀y:YC,kZ y.l (Yc y) y.l g y 0 (y.gs 1) []=some (y,0,y.gs 1,out):=by
 have hB:=hB
 have hsm:=hg.small
 obtain⟨c',e',hL,h3⟩:=YN hg (us g m m) (m+1) 0 (List.replicate m (0:Int)) [] (by omega) (by omega) ⟨fY ..,fun h hh=>by omega,List.nodup_nil,fun x=>by simp⟩
 obtain⟨out,hO,h9⟩:=YO hg dG e' [] c' (Jp (by simp;omega)) ⟨hL.len,fun h hh=>by rw[hL.num h hh,JM],by rw[cW];exact hL.oz,fun x hx=>by
  rw[cW] at hx
  obtain⟨h,h1,h2,_⟩:=(hL.mem x).1 hx
  omega,fun h hh=>by
  rw[cW,hL.mem,JM]
  constructor
  ·rintro⟨h',h1,h2,h3⟩
   have:h'=h:=by omega
   subst this;exact h3
  ·intro h1;exact⟨h,hh,rfl,h1⟩,fun i hi=>by simp at hi⟩
 refine⟨out,hO,fun y=>?_⟩
 have h3:=h3 y []
 have h3':il y.l (Yc y) (m+1) (y.l,g,us g m m,(m:Int),(0:Int),y,0,y.gs 1,[],List.replicate m (0:Int),[])=some (.aX (y.l,us g m m,y,0,y.gs 1,[],c',e')):=h3
 unfold kZ
 rw[MC hg,aD,hg.many,dH m,aA (fL _),aA (by omega),dT]
 erw[h3']
 rw[aC]
 dsimp only
 rw[h9 y,aC]
theorem Hy{g:gN}{m:Nat}(hg:GG g m):∃out,KO g m out∧pL g=some out:=by
 obtain⟨out,hO,h⟩:=YP hg
 refine⟨out,hO,?_⟩
 unfold pL yd
 rw[oh (r:=.aX out)]
 ·rfl
 ·intro y
  erw[h y]
  simp only[aD,gn,cu]
abbrev NM:=ZR
def kk(M:NM)(h:Int):Zd:=(bC (aO (.int .i64) (.map (.int .i64) .bool) h M)).map (·.1)
theorem mR{α:Type}{k z:Int}{v:α}{es:List (Int×α)}:z∈(bJ (.int .i64) k v es).map (·.1)↔z=k∨z∈es.map (·.1):=by
 have h1:=hH (kt:=.int .i64) rfl (k:=z) (es:=bJ (.int .i64) k v es)
 have h2:=hH (kt:=.int .i64) rfl (k:=z) (es:=es)
 by_cases h:z=k
 ·subst h
  exact⟨fun _=>Or.inl rfl,fun _=>h1.1 (so (kt:=.int .i64) rfl _ _ _)⟩
 ·rw[qz (kt:=.int .i64) rfl h] at h1
  exact⟨fun hz=>Or.inr (h2.1 (h1.2 hz)),fun hz=>h1.1 (h2.2 (hz.resolve_left h))⟩
theorem uz{M:NM}{h:Int}{L:Zr}:kk (bJ (.int .i64) h (some L) M) h=L.map (·.1):=by
 unfold kk
 rw[dj (kt:=.int .i64) (vt:=.map (.int .i64) .bool) rfl]
 rfl
theorem uA{M:NM}{h z:Int}{L:Ze}(hz:z≠h):kk (bJ (.int .i64) h L M) z=kk M z:=by
 unfold kk
 rw[cP (kt:=.int .i64) (vt:=.map (.int .i64) .bool) rfl hz]
structure RG(m:Nat)(M:NM):Prop where
 oz:∀h,(kk M h).Nodup
 AY:∀h x,x∈kk M h→0≤x∧x<(m:Int)
 VI:(M.map (·.1)).Nodup
 Rl:∀x∈M.map (·.1),0≤x∧x<(m:Int)
theorem wY(m x:Int)(M:NM):uu m x M=some (decide (0≤x∧x<m),M):=by
 unfold uu
 by_cases h:0≤x
 ·rw[bZ h,aD]
  simp[h]
 ·rw[aB (by simp[h]),aD]
  simp[h]
theorem RG.put{m:Nat}{M:NM}(hM:RG m M){h x:Int}(hh:h∈M.map (·.1))(hx:0≤x∧x<(m:Int)):
 RG m (bJ (.int .i64) h (some (bJ (.int .i64) x true (bC (aO (.int .i64) (.map (.int .i64) .bool) h M)))) M):=by
 refine⟨fun z=>?_,fun z y hy=>?_,fF (kt:=.int .i64) rfl hM.VI,fun z hz=>?_⟩
 ·by_cases hz:z=h
  ·subst hz
   rw[uz]
   exact fF (kt:=.int .i64) rfl (hM.oz z)
  ·rw[uA hz];exact hM.oz z
 ·by_cases hz:z=h
  ·subst hz
   rw[uz,mR] at hy
   rcases hy with rfl|hy
   ·exact hx
   ·exact hM.AY z y hy
  ·rw[uA hz] at hy;exact hM.AY z y hy
 ·rw[mR] at hz
  rcases hz with rfl|hz
  ·exact hM.Rl _ hh
  ·exact hM.Rl z hz
theorem MD{M:NM}{h x z y:Int}:y∈kk (bJ (.int .i64) h (some (bJ (.int .i64) x true (bC (aO (.int .i64) (.map (.int .i64) .bool) h M)))) M) z↔(z=h∧y=x)∨y∈kk M z:=by
 by_cases hz:z=h
 ·subst hz
  rw[uz,mR]
  exact⟨fun hy=>hy.imp (fun e=>⟨rfl,e⟩) id,fun hy=>hy.imp (·.2) id⟩
 ·rw[uA hz]
  exact⟨Or.inr,fun hy=>hy.resolve_left fun e=>hz e.1⟩
abbrev ME:Int×gN:=((140:Int),((0:Int),((none:Option NM),())))
theorem VJ{m:Nat}(hsm:m≤1000000)(i:Zl)(j k:Int)(fr:ZA)(h:eQ)(hfr:fr.length≤aF):∀(n c:Nat)(M:NM),fr.length -c<n→c≤fr.length→RG m M→h.2.1∈M.map (·.1)→(∀z(hz:z<fr.length),z<c→fr[z].2.2.1∈kk M h.2.1)→
 (∃M',sy n (i,j,k,fr,(fr.length:Int),(c:Int),(m:Int),h,M)=some (.aX (i,j,k,(m:Int),M'))∧RG m M'∧(∀z y,y∈kk M z→y∈kk M' z)∧∀f∈fr,f.2.2.1∈kk M' h.2.1)∨
  sy n (i,j,k,fr,(fr.length:Int),(c:Int),(m:Int),h,M)=some (.ret (.ret ME)):=by
 intro n
 have hB:=hB
 induction n with
 |zero=>intro c M h;omega
 |
  succ n ih=>
  intro c M hn hc hM hh hd
  unfold sy at ih ⊢
  rw[aK]
  generalize aL _ n=rec at ih ⊢
  dsimp only
  by_cases hcl:c<fr.length
  ·rw[bZ (by omega),dH c,aA (show(c:Int)<(fr.length:Int) by omega),cH (t:=bE) hcl,wY,aD]
   dsimp only
   by_cases hx:0≤fr[c].2.2.1∧fr[c].2.2.1<(m:Int)
   ·rw[aB (by simp[hx]),aA (hH (kt:=.int .i64) rfl |>.2 hh),aA (lU (kt:=.int .i64) rfl _)]
    have hlen:(bC (aO (.int .i64) (.map (.int .i64) .bool) h.2.1 M)).length≤m:=by
     have:=jR m (kk M h.2.1) (hM.oz _) (hM.AY _)
     unfold kk at this
     rw[gm] at this
     exact this
    rw[aA (by omega),bS (by omega)]
    rcases ih (c+1) _ (by omega) (by omega) (hM.put hh hx) (by rw[mR];exact Or.inl rfl) (fun z hz hzc=>by
     rw[MD]
     by_cases e:z=c
     ·subst e;exact Or.inl ⟨rfl,rfl⟩
     ·exact Or.inr (hd z hz (by omega))) with⟨M',e,h1,h2,h3⟩|e
    ·exact Or.inl ⟨M',e,h1,fun z y hy=>h2 z y (MD.2 (Or.inr hy)),h3⟩
    ·exact Or.inr e
   ·rw[aA (by simp[hx])]
    exact Or.inr rfl
  ·rw[eG (by omega)]
   refine Or.inl ⟨M,rfl,hM,fun _ _ h=>h,fun f hf=>?_⟩
   obtain⟨z,hz,rfl⟩:=iB hf
   exact hd z hz (by omega)
theorem YQ{m:Nat}(hsm:m≤1000000)(rs:Zl)(hrs:rs.length≤aF)(hfr:∀r∈rs,r.2.2.1.length≤aF):∀(n c:Nat)(M:NM),rs.length -c<n→c≤rs.length→RG m M→(∀z(hz:z<rs.length),z<c→∀f∈rs[z].2.2.1,f.2.2.1∈kk M rs[z].2.1)→
 (∃M',vU n (rs,(rs.length:Int),(c:Int),(m:Int),M)=some (.aX ((m:Int),M'))∧RG m M'∧∀r∈rs,∀f∈r.2.2.1,f.2.2.1∈kk M' r.2.1)∨
  vU n (rs,(rs.length:Int),(c:Int),(m:Int),M)=some (.ret ME):=by
 intro n
 have hB:=hB
 induction n with
 |zero=>intro c M h;omega
 |
  succ n ih=>
  intro c M hn hc hM hd
  unfold vU at ih ⊢
  rw[aK]
  generalize aL _ n=rec at ih ⊢
  dsimp only
  by_cases hcl:c<rs.length
  ·rw[bZ (by omega),dH c,aA (show(c:Int)<(rs.length:Int) by omega),cH (t:=bW) hcl,wY,aD]
   dsimp only
   by_cases hx:0≤rs[c].2.1∧rs[c].2.1<(m:Int)
   ·rw[aB (by simp[hx])]
    have hput:∃M1,RG m M1∧rs[c].2.1∈M1.map (·.1)∧(∀z y,y∈kk M z→y∈kk M1 z)∧
     (if(!(ek (.int .i64) rs[c].2.1 M))=true then(if ek (.int .i64) rs[c].2.1 M=false then(if bN (.int .i64) rs[c].2.1 rs[c].2.1=true then(if List.length M+1≤aF then(some (dR.aX (rs,(rs.length:Int),(c:Int),(m:Int),rs[c],bJ (.int .i64) rs[c].2.1 (some ([]:Zr)) (bJ (.int .i64) rs[c].2.1 (Ty.aH (.map (.int .i64) .bool)) M)))) else none) else none) else none) else(some (.aX (rs,(rs.length:Int),(c:Int),(m:Int),rs[c],M))):Option (dR (List eQ×Int×Int×Int×eQ×NM) (dR (List eQ×Int×Int×Int×NM) (dR (Int×NM) (Int×gN)))))=some (.aX (rs,(rs.length:Int),(c:Int),(m:Int),rs[c],M1)):=by
     cases hm:ek (.int .i64) rs[c].2.1 M with
     |true=>exact⟨M,hM,hH (kt:=.int .i64) rfl |>.1 hm,fun _ _ h=>h,by rw[aB (by simp)]⟩
     |
      false=>
      have hno:rs[c].2.1∉M.map (·.1):=fun h=>by
       have:=hH (kt:=.int .i64) rfl |>.2 h
       rw[hm] at this;cases this
      have hk0:kk M rs[c].2.1= []:=by
       unfold kk
       rw[Ec (kt:=.int .i64) hm]
       rfl
      have hlen:M.length≤m:=by
       have:=jR m (M.map (·.1)) hM.VI hM.Rl
       rw[gm] at this
       exact this
      refine⟨_,⟨fun z=>?_,fun z y hy=>?_,fF (kt:=.int .i64) rfl (fF (kt:=.int .i64) rfl hM.VI),fun z hz=>?_⟩,mR.2 (Or.inl rfl),fun z y hy=>?_,by rw[aA (by simp),aA rfl,aA (lU (kt:=.int .i64) rfl _),aA (by omega)]⟩
      ·by_cases hz:z=rs[c].2.1
       ·subst hz;rw[uz];exact List.nodup_nil
       ·rw[uA hz,uA hz];exact hM.oz z
      ·by_cases hz:z=rs[c].2.1
       ·subst hz;rw[uz] at hy;cases hy
       ·rw[uA hz,uA hz] at hy;exact hM.AY z y hy
      ·rw[mR,mR] at hz
       rcases hz with rfl|rfl|hz
       ·exact hx
       ·exact hx
       ·exact hM.Rl z hz
      ·by_cases hz:z=rs[c].2.1
       ·subst hz;rw[hk0] at hy;cases hy
       ·rw[uA hz,uA hz];exact hy
    obtain⟨M1,hM1,hh1,hk1,e1⟩:=hput
    rw[e1,aC]
    dsimp only
    rcases VJ hsm rs (rs.length:Int) (c:Int) rs[c].2.2.1 rs[c] (hfr _ (lq hcl)) (rs[c].2.2.1.length+1) 0 M1 (by omega) (by omega) hM1 hh1 (fun z hz h=>by omega) with⟨M',e,h1,h2,h3⟩|e
    ·have e':sy (Int.toNat (List.length rs[c].2.2.1:Int)+1) (rs,(rs.length:Int),(c:Int),rs[c].2.2.1,(List.length rs[c].2.2.1:Int),(0:Int),(m:Int),rs[c],M1)=some (.aX (rs,(rs.length:Int),(c:Int),(m:Int),M')):=e
     rw[e',aC]
     dsimp only
     rw[bS (by omega)]
     exact ih (c+1) M' (by omega) (by omega) h1 fun z hz hzc f hf=>by
      by_cases ec:z=c
      ·subst ec;exact h3 f hf
      ·exact h2 _ _ (hk1 _ _ (hd z hz (by omega) f hf))
    ·have e':sy (Int.toNat (List.length rs[c].2.2.1:Int)+1) (rs,(rs.length:Int),(c:Int),rs[c].2.2.1,(List.length rs[c].2.2.1:Int),(0:Int),(m:Int),rs[c],M1)=some (.ret (.ret ME)):=e
     rw[e',i6]
     exact Or.inr rfl
   ·rw[aA (by simp[hx])]
    exact Or.inr rfl
  ·rw[eG (by omega)]
   refine Or.inl ⟨M,rfl,hM,fun r hr=>?_⟩
   obtain⟨z,hz,rfl⟩:=iB hr
   exact hd z hz (by omega)
structure SB(s:bD):Prop where
 dh:s.2.2.1.length≤1000000
 rules:s.2.2.2.1.length≤aF
 YR:∀r∈s.2.2.2.1,r.2.2.1.length≤aF
theorem Rm{s:bD}(hs:SB s):(∃g,Yx s=some ((0:Int),g)∧GG g s.2.2.1.length∧∀r∈s.2.2.2.1,∀f∈r.2.2.1,f.2.2.1∈ks g r.2.1)∨Yx s=some ME:=by
 have key:=YQ hs.dh s.2.2.2.1 hs.rules hs.YR (s.2.2.2.1.length+1) 0 [] (by omega) (by omega) ⟨fun h=>List.nodup_nil,fun h x hx=>(by cases hx),List.nodup_nil,fun x hx=>(by cases hx)⟩ (fun z hz h=>by omega)
 unfold Yx
 rcases key with⟨M',e,h1,h2⟩|e
 ·have e':vU (Int.toNat (List.length s.2.2.2.1:Int)+1) (s.2.2.2.1,(List.length s.2.2.2.1:Int),(0:Int),(List.length s.2.2.1:Int),([]:NM))=some (.aX ((s.2.2.1.length:Int),M')):=e
  rw[e',aC]
  exact Or.inl ⟨_,rfl,⟨rfl,hs.dh,fun h=>h1.oz h,fun h x hx=>h1.AY h x hx⟩,h2⟩
 ·have e':vU (Int.toNat (List.length s.2.2.2.1:Int)+1) (s.2.2.2.1,(List.length s.2.2.2.1:Int),(0:Int),(List.length s.2.2.1:Int),([]:NM))=some (.ret ME):=e
  rw[e',i6]
  exact Or.inr rfl
structure vW(s:bD)(l:Zd):Prop where
 oz:l.Nodup
 all:∀x,x∈l↔0≤x∧x<(s.2.2.1.length:Int)
 pre:∀r∈s.2.2.2.1,∀f∈r.2.2.1,l.idxOf f.2.2.1<l.idxOf r.2.1
theorem KO.all{g:gN}{m:Nat}{out:Zd}(h:KO g m out)(hl:m≤out.length)(x:Int):x∈out↔0≤x∧x<(m:Int):=by
 refine⟨h.AY x,fun hx=>?_⟩
 by_cases hm:x∈out
 ·exact hm
 ·have:=jR m (x::out) (List.nodup_cons.2 ⟨hm,h.oz⟩) fun y hy=>by
   rcases List.mem_cons.1 hy with rfl|hy
   ·exact hx
   ·exact h.AY y hy
  rw[db] at this
  omega
theorem EB{s:bD}(hs:SB s):∃l ok e,W6 s=some (l,ok,e)∧(e=0→ok=true→(∀r∈s.2.2.2.1,0≤r.2.1∧r.2.1<(s.2.2.1.length:Int))→vW s l):=by
 unfold W6
 rcases Rm hs with⟨g,e,hg,hn⟩|e
 ·rw[e,aD]
  dsimp only
  rw[aB (by decide)]
  obtain⟨out,hO,ho⟩:=Hy hg
  have ho:=(Fp g).trans ho
  have e2:Hq g=some g:=rfl
  rw[e2,aD,ho,aD,hg.many]
  by_cases hl:out.length<s.2.2.1.length
  ·rw[bZ (by omega)]
   exact⟨_,_,_,rfl,fun _ h=>(by cases h)⟩
  ·rw[eG (by omega)]
   refine⟨_,_,_,rfl,fun _ _ hr=>⟨hO.oz,hO.all (by omega),fun r hrm f hf=>?_⟩⟩
   have hin:r.2.1∈out:=(hO.all (by omega) _).2 (hr r hrm)
   have hi:=List.idxOf_lt_length_of_mem hin
   have h1:=hO.pre _ hi f.2.2.1 (by rw[List.getElem_idxOf];exact hn r hrm f hf)
   obtain⟨j,hj,e3⟩:=iB h1
   rw[gv] at hj
   rw[List.getElem_take] at e3
   rw[←e3,hO.oz.idxOf_getElem]
   omega
 ·rw[e,aD]
  dsimp only
  rw[aA (by decide)]
  exact⟨_,_,_,rfl,fun h=>(by cases h)⟩
theorem gE{A R:Type}{x:Option A}{f:A→Option R}(hx:∃a,x=some a)(hf:∀a,∃r,f a=some r):∃r,Option.bind x f=some r:=by
 obtain⟨a,rfl⟩:=hx
 exact hf a
theorem yO(x y:Zs)(hl:x.length≤aF):∃r,UP x y=some r:=PB .str (fun a b=>decide (a=b)) x y fun _=>hl
theorem Ll(l:Zs)(hl:l.length≤aF):∃r,f79 l=some r:=by
 have hB:=hB
 have key:∀(n a:Nat)(d:List (Zf×Bool)),l.length -a<n→a≤l.length→d.length≤a→∃r,aI (U:=Unit) (Hj n (l,(l.length:Int),(a:Int),d)) (fun _=>some true)=some r:=by
  intro n
  induction n with
  |zero=>intro a d h;omega
  |
   succ n ih=>
   intro a d hn ha hd
   unfold Hj at ih ⊢
   rw[aK]
   generalize aL _ n=rec at ih ⊢
   dsimp only
   by_cases h:a<l.length
   ·rw[bZ (by omega),dH a,aA (show(a:Int)<(l.length:Int) by omega)]
    split
    ·exact⟨_,rfl⟩
    ·rw[aA (by omega),bS (by omega)]
     exact ih (a+1) _ (by omega) (by omega) (cS (dp (kt:=.str)) (by omega))
   ·rw[eG (by omega)]
    exact⟨_,rfl⟩
 exact key _ 0 [] (by omega) (by omega) (by simp)
theorem Lm(l:Zd)(hl:l.length≤aF):∃r,Vl l=some r∧(r=true→l.Nodup):=by
 have hB:=hB
 have key:∀(n a:Nat)(d:Zr),l.length -a<n→a≤l.length→d.length≤a→(∀x∈l.take a,aO (.int .i64) .bool x d=true)→(l.take a).Nodup→∃r,aI (U:=Unit) (Cc n (l,(l.length:Int),(a:Int),d)) (fun _=>some true)=some r∧(r=true→l.Nodup):=by
  intro n
  induction n with
  |zero=>intro a d h;omega
  |
   succ n ih=>
   intro a d hn ha hd h1 h2
   unfold Cc at ih ⊢
   rw[aK]
   generalize aL _ n=rec at ih ⊢
   dsimp only
   by_cases h:a<l.length
   ·rw[bZ (by omega),dH a,aA (show(a:Int)<(l.length:Int) by omega),cH (t:=.int .i64) h]
    by_cases hs:aO (.int .i64) .bool l[a] d=true
    ·rw[aA hs];exact⟨false,rfl,fun h=>(by cases h)⟩
    ·rw[aB hs,aA (by omega),bS (by omega)]
     have ht:l.take (a+1)=l.take a++[l[a]]:=(List.take_append_getElem h).symm
     refine ih (a+1) _ (by omega) (by omega) (cS (dp (kt:=.int .i64)) (by omega)) (fun x hx=>?_) ?_
     ·rw[ht,jT,ln] at hx
      by_cases e:x=l[a]
      ·rw[e];exact dj (kt:=.int .i64) (vt:=.bool) rfl _ _ _
      ·rw[cP (kt:=.int .i64) (vt:=.bool) rfl e];exact h1 x (hx.resolve_right e)
     ·rw[ht,List.nodup_append]
      refine⟨h2,List.nodup_cons.2 ⟨List.not_mem_nil,List.nodup_nil⟩,fun x hx y hy=>?_⟩
      rw[List.mem_singleton.1 hy]
      exact fun e=>hs (h1 _ (e▸hx))
   ·rw[eG (by omega)]
    have e:a=l.length:=by omega
    subst e
    rw[List.take_length] at h2
    exact⟨true,rfl,fun _=>h2⟩
 exact key _ 0 [] (by omega) (by omega) (by simp) (fun x hx=>(by cases hx)) List.nodup_nil
abbrev gp(t:ji):Zs:=t.2.2.2.2.2.1
theorem Bg(t:ji)(n:Int):∃r,Pw t n=some r:=by
 unfold Pw
 refine gE ?_ fun v=>⟨v,rfl⟩
 repeat' (first|exact⟨_,rfl⟩|split)
theorem Ln(t:ji)(n:Int):∃r,Gz t n=some r:=by
 unfold Gz
 refine gE ?_ fun v=>⟨v,rfl⟩
 repeat' (first|exact⟨_,rfl⟩|split)
theorem Lo(t:ji)(n:Int):∃r,Gy t n=some r:=by
 unfold Gy
 refine gE ?_ fun v=>⟨v,rfl⟩
 repeat' (first|exact⟨_,rfl⟩|split)
theorem Lp(t:ji)(n:Int)(h:(gp t).length≤aF):∃r,Gx t n=some r:=by
 unfold Gx
 obtain⟨q,hq⟩:=Ll _ h
 refine gE ?_ fun v=>⟨v,rfl⟩
 rw[hq]
 repeat' (first|exact⟨_,rfl⟩|split)
theorem lB(c:kN)(t:ji)(h:(gp t).length≤aF):∃r,uj c t=some r:=by
 unfold uj
 by_cases h1:t.1<1
 ·rw[bZ h1];exact⟨_,rfl⟩
 ·by_cases h2:(4:Int)<t.1
  ·rw[aB (by simpa using h1),bQ h2];exact⟨_,rfl⟩
  ·rw[aB (by simpa using h1),cD h2,aD,aB (by decide),aC]
   dsimp only
   rw[aA (by omega),aA (by omega),aB (by omega)]
   by_cases e1:t.1=1
   ·rw[aA e1];exact gE (Bg _ _) fun v=>⟨v,rfl⟩
   ·rw[aB e1]
    by_cases e2:t.1=2
    ·rw[aA e2];exact gE (Ln _ _) fun v=>⟨v,rfl⟩
    ·rw[aB e2]
     by_cases e3:t.1=3
     ·rw[aA e3];exact gE (Lo _ _) fun v=>⟨v,rfl⟩
     ·rw[aB e3,aA (by omega)];exact gE (Lp _ _ h) fun v=>⟨v,rfl⟩
theorem lC(c:kN)(u:gJ):∃r,Up c u=some r:=by
 unfold Up
 refine gE ?_ fun v=>⟨v,rfl⟩
 by_cases h1:0≤u.2.2.2.1
 ·by_cases h2:u.2.2.2.1<(c.1.2.1.length:Int)
  ·rw[aA h1,aA h2]
   repeat' (first|exact⟨_,rfl⟩|split)
  ·rw[aB (show¬decide (u.2.2.2.1<(List.length c.1.2.1:Int))=true by simpa using h2)]
   repeat' (first|exact⟨_,rfl⟩|split)
 ·rw[aB (show¬decide ((0:Int)≤u.2.2.2.1)=true by simpa using h1)]
  repeat' (first|exact⟨_,rfl⟩|split)
def aP(s:bD)(a:Int):ZE:=(nth aR s.2.2.1 a).2.2.2.2.1
structure Hz(s:bD)(a b:Int):Prop where
 a0:0≤a
 a1:a<(s.2.2.1.length:Int)
 b0:0≤b
 b1:b<((aP s a).length:Int)
theorem gz(c:kN)(a b:Int):(Hz c.1 a b∧P8 c a b=some (true,(nth cM (aP c.1 a) b).2.1))∨(¬Hz c.1 a b∧∃t,P8 c a b=some (false,t)):=by
 unfold P8
 by_cases h1:a<0
 ·rw[bZ h1]
  exact Or.inr ⟨fun h=>by have:=h.a0;omega,_,rfl⟩
 ·rw[aB (by simpa using h1)]
  by_cases h2:(c.1.2.2.1.length:Int)≤a
  ·rw[bZ h2]
   exact Or.inr ⟨fun h=>by have:=h.a1;omega,_,rfl⟩
  ·rw[aB (by simpa using h2)]
   by_cases h3:b<0
   ·rw[bZ h3]
    exact Or.inr ⟨fun h=>by have:=h.b0;omega,_,rfl⟩
   ·rw[aB (by simpa using h3),aA (show 0≤a by omega),aA (show a<(c.1.2.2.1.length:Int) by omega)]
    by_cases h4:((aP c.1 a).length:Int)≤b
    ·have d4:decide (((aP c.1 a).length:Int)≤b)=true:=bQ h4
     unfold aP at d4
     rw[d4,aD,aA rfl]
     exact Or.inr ⟨fun h=>by have:=h.b1;omega,_,rfl⟩
    ·have d4:decide (((aP c.1 a).length:Int)≤b)=false:=cD h4
     have h5:b<((aP c.1 a).length:Int):=by omega
     have h6:=h5
     unfold aP at d4 h6
     rw[d4,aD,aB (by decide),aC]
     dsimp only
     rw[aA (show 0≤a by omega),aA (show a<(c.1.2.2.1.length:Int) by omega),aA (show 0≤b by omega),aA h6]
     exact Or.inl ⟨⟨by omega,by omega,by omega,h5⟩,rfl⟩
structure EC(c:im)(t:gJ)(n:Int):Prop where
 v0:0≤t.2.2.1
 v1:t.2.2.1<n
 f:Hz c.1.1 (nth bE c.2.1.2.2.1 t.2.2.1).2.2.1 t.2.2.2.1
theorem qZ(c:im)(t:gJ){n:Int}(hn:n≤(c.2.1.2.2.1.length:Int)):
 (EC c t n∧Hl c t n=some (true,(nth cM (aP c.1.1 (nth bE c.2.1.2.2.1 t.2.2.1).2.2.1) t.2.2.2.1).2.1))∨(¬EC c t n∧∃y,Hl c t n=some (false,y)):=by
 unfold Hl
 by_cases h1:t.2.2.1<0
 ·rw[bZ h1]
  exact Or.inr ⟨fun h=>by have:=h.v0;omega,_,rfl⟩
 ·rw[aB (by simpa using h1)]
  by_cases h2:n≤t.2.2.1
  ·rw[bQ h2,aD,aA rfl]
   exact Or.inr ⟨fun h=>by have:=h.v1;omega,_,rfl⟩
  ·rw[cD h2,aD,aB (by decide),aC]
   dsimp only
   rw[aA (show 0≤t.2.2.1 by omega),aA (show t.2.2.1<(c.2.1.2.2.1.length:Int) by omega)]
   rcases gz c.1 (nth bE c.2.1.2.2.1 t.2.2.1).2.2.1 t.2.2.2.1 with⟨hi,e⟩|⟨hi,y,e⟩
   ·rw[e]
    exact Or.inl ⟨⟨by omega,by omega,hi⟩,rfl⟩
   ·rw[e]
    exact Or.inr ⟨fun h=>hi h.f,y,rfl⟩
theorem HA{t:ji}{n:Int}(h:Pw t n=some true):-1≤t.2.2.2.2.1∧t.2.2.2.2.1<n:=by
 unfold Pw at h
 by_cases h1:-1≤t.2.2.2.2.1
 ·by_cases h2:t.2.2.2.2.1<n
  ·exact⟨h1,h2⟩
  ·exfalso
   rw[aB (show¬decide (t.2.2.2.2.1<n)=true by simpa using h2)] at h
   repeat' (first|cases h;done|split at h)
 ·exfalso
  rw[aB (show¬decide ((-1:Int)≤t.2.2.2.2.1)=true by simpa using h1)] at h
  repeat' (first|cases h;done|split at h)
theorem l7{c:kN}{t:ji}(h:uj c t=some true)(h1:t.1=1):-1≤t.2.2.2.2.1∧t.2.2.2.2.1<(c.1.2.1.length:Int):=by
 unfold uj at h
 rw[aB (show¬decide (t.1<(1:Int))=true by rw[h1];decide),h1,aD,aB (by decide),aC] at h
 dsimp only at h
 rw[h1,aA (by decide),aA (by decide),aB (by decide),aA rfl] at h
 obtain⟨q,hq⟩:=Bg t (c.1.2.1.length:Int)
 rw[hq] at h
 cases h
 exact HA hq
def AZ(c:im)(t:gJ):ji:=(nth cM (aP c.1.1 (nth bE c.2.1.2.2.1 t.2.2.1).2.2.1) t.2.2.2.1).2.1
structure FO(c:im)(j:Nat):Prop where
 s0:0≤(nth bE c.2.1.2.2.1 (j:Int)).2.2.1
 s1:(nth bE c.2.1.2.2.1 (j:Int)).2.2.1<(c.1.1.2.2.1.length:Int)
 of:(nth bE c.2.1.2.2.1 (j:Int)).2.2.2.1.2.2.1= -1∨EC c (nth bE c.2.1.2.2.1 (j:Int)).2.2.2.1 (j:Int)
 pk:(nth bE c.2.1.2.2.1 (j:Int)).2.2.2.1.2.2.1= -1∨(AZ c (nth bE c.2.1.2.2.1 (j:Int)).2.2.2.1).1=3
theorem VK(
 c:im) (hl:c.2.1.2.2.1.length≤aF):∀(n i:Nat),c.2.1.2.2.1.length -i<n→i≤c.2.1.2.2.1.length→(∀j<i,FO c j)→
 (aI (U:=Unit) (xO n (c.2.1.2.2.1,(c.2.1.2.2.1.length:Int),(i:Int),c)) (fun _=>some true)=some true∧∀j<c.2.1.2.2.1.length,FO c j)∨aI (U:=Unit) (xO n (c.2.1.2.2.1,(c.2.1.2.2.1.length:Int),(i:Int),c)) (fun _=>some true)=some false:=by
 intro n
 have hB:=hB
 induction n with
 |zero=>intro i h;omega
 |
  succ n ih=>
  intro i hn hi hd
  unfold xO at ih ⊢
  rw[aK]
  generalize aL _ n=rec at ih ⊢
  dsimp only
  by_cases h:i<c.2.1.2.2.1.length
  ·rw[bZ (by
    omega),dH i,aA (show(i:Int)<(c.2.1.2.2.1.length:Int) by omega)]
   by_cases h1:(nth bE c.2.1.2.2.1 (i:Int)).2.2.1<0
   ·rw[bZ h1];exact Or.inr rfl
   ·rw[aB (show¬decide ((nth bE c.2.1.2.2.1 (i:Int)).2.2.1<(0:Int))=true by simpa using h1)]
    by_cases h2:(c.1.1.2.2.1.length:Int)≤(nth bE c.2.1.2.2.1 (i:Int)).2.2.1
    ·rw[bQ h2,aD,aA rfl];exact Or.inr rfl
    ·rw[cD h2,aD,aB (by decide),aC]
     dsimp only
     rw[bS (by omega)]
     by_cases h3:(nth bE c.2.1.2.2.1 (i:Int)).2.2.2.1.2.2.1= -1
     ·rw[bZ h3]
      exact ih (i+1) (by omega) (by omega) fun j hj=>by
       by_cases e:j=i
       ·subst e;exact⟨Int.not_lt.1 h1,Int.not_le.1 h2,Or.inl h3,Or.inl h3⟩
       ·exact hd j (by omega)
     ·rw[aB (show¬decide ((nth bE c.2.1.2.2.1 (i:Int)).2.2.2.1.2.2.1=(-1:Int))=true by simpa using h3)]
      rcases qZ c (nth bE c.2.1.2.2.1 (i:Int)).2.2.2.1 (n:=(i:Int)) (by omega) with⟨hit,e⟩|⟨_,y,e⟩
      ·rw[e,aD]
       dsimp only
       rw[aB (by decide),aD]
       by_cases h4:(AZ c (nth bE c.2.1.2.2.1 (i:Int)).2.2.2.1).1=3
       ·have h5:=h4
        unfold AZ at h5
        rw[aB (by simp[h5])]
        exact ih (i+1) (by omega) (by omega) fun j hj=>by
         by_cases e:j=i
         ·subst e;exact⟨Int.not_lt.1 h1,Int.not_le.1 h2,Or.inr hit,Or.inr h4⟩
         ·exact hd j (by omega)
       ·unfold AZ at h4
        rw[aA (by simpa using h4)]
        exact Or.inr rfl
      ·rw[e,aD]
       dsimp only
       rw[aA (by decide),aD,aA rfl]
       exact Or.inr rfl
  ·rw[eG (by omega)]
   exact Or.inl ⟨rfl,fun j hj=>hd j (by omega)⟩
theorem HC(c:im)(hl:c.2.1.2.2.1.length≤aF):(Mx c=some true∧1≤c.2.1.2.2.1.length∧c.2.1.2.2.1.length≤3∧∀j<c.2.1.2.2.1.length,FO c j)∨Mx c=some false:=by
 unfold Mx
 by_cases h1:(c.2.1.2.2.1.length:Int)<1
 ·rw[bZ h1];exact Or.inr rfl
 ·rw[aB (show¬decide ((c.2.1.2.2.1.length:Int)<(1:Int))=true by simpa using h1)]
  by_cases h2:(3:Int)<(c.2.1.2.2.1.length:Int)
  ·rw[bQ h2,aD,aA rfl];exact Or.inr rfl
  ·rw[cD h2,aD,aB (by decide),aC]
   rcases VK c hl (c.2.1.2.2.1.length+1) 0 (by omega) (by omega) (fun j hj=>by omega) with⟨e,h⟩|e
   ·exact Or.inl ⟨e,by omega,by omega,h⟩
   ·exact Or.inr e
def UO(s:bD):Prop:=∀x∈s.2.2.1,∀f∈x.2.2.2.2.1,f.2.1.1=1→-1≤f.2.1.2.2.2.2.1∧f.2.1.2.2.2.2.1<(s.2.1.length:Int)
def NB(s:bD):Prop:=∀x∈s.2.2.1,x.2.2.2.2.1.length≤aF∧∀f∈x.2.2.2.2.1,(gp f.2.1).length≤aF
theorem Hz.mem{s:bD}{a b:Int}(h:Hz s a b):nth aR s.2.2.1 a∈s.2.2.1∧nth cM (aP s a) b∈(nth aR s.2.2.1 a).2.2.2.2.1:=
 ⟨bA h.a0 h.a1,bA (t:=cM) (l:=aP s a) h.b0 h.b1⟩
theorem yP(c:kN)(a b:ji)(hn:(gp a).length≤aF)(ha:a.1=1→-1≤a.2.2.2.2.1∧a.2.2.2.2.1<(c.1.2.1.length:Int))(hb:b.1=1→-1≤b.2.2.2.2.1∧b.2.2.2.2.1<(c.1.2.1.length:Int)):∃r,P9 c a b=some r:=by
 unfold P9
 by_cases h1:a.1=b.1
 ·rw[aB (by simp[h1])]
  by_cases h4:a.1=4
  ·rw[bZ h4]
   obtain⟨q,hq⟩:=yO (gp a) (gp b) hn
   unfold gp at hq
   rw[hq];exact⟨_,rfl⟩
  ·rw[aB (show¬decide (a.1=(4:Int))=true by simpa using h4)]
   by_cases e1:a.1=1
   ·obtain⟨ha1,ha2⟩:=ha e1
    obtain⟨hb1,hb2⟩:=hb (by omega)
    rw[aB (by simp[e1])]
    by_cases u1:a.2.2.2.2.1= -1
    ·rw[bZ u1];exact⟨_,rfl⟩
    ·rw[aB (show¬decide (a.2.2.2.2.1=(-1:Int))=true by simpa using u1)]
     by_cases u2:b.2.2.2.2.1= -1
     ·rw[bQ u2];exact⟨_,rfl⟩
     ·rw[cD u2,aD,aB (by decide),aC]
      dsimp only
      rw[aA (by omega),aA ha2,aA (by omega),aA hb2]
      exact⟨_,rfl⟩
   ·rw[aA (by simp[e1])];exact⟨_,rfl⟩
 ·rw[aA (by simp[h1])];exact⟨_,rfl⟩
def l9(c:im)(t:gJ):Prop:=EC c t (c.2.1.2.2.1.length:Int)∨t.2.2.1= -1
def SV(c:im)(y:ji)(t:gJ):Prop:=(t.2.2.1= -1∧y.2.1≤t.2.2.2.2.1∧t.2.2.2.2.1≤y.2.2.1)∨(EC c t (c.2.1.2.2.1.length:Int)∧y.2.1≤(AZ c t).2.1∧(AZ c t).2.2.1≤y.2.2.1)
theorem Uq{P:Prop}{x:Zm}(h:∃z,x=some z∧(z=true→P)):∃r,(Option.bind x fun v=>some v)=some r∧(r=true→P):=by
 obtain⟨z,rfl,h⟩:=h
 exact⟨z,rfl,h⟩
def GT(s:bD)(y:ji):Prop:=(gp y).length≤aF∧(y.1=1→-1≤y.2.2.2.2.1∧y.2.2.2.2.1<(s.2.1.length:Int))
theorem EC.gt{c:im}{t:gJ}{n:Int}(h:EC c t n)(hN:NB c.1.1)(hU:UO c.1.1):GT c.1.1 (AZ c t):=by
 obtain⟨h1,h2⟩:=h.f.mem
 exact⟨(hN _ h1).2 _ h2,hU _ h1 _ h2⟩
theorem wZ(t:gJ):∃r,My t=some r∧(r=true→t.2.2.1= -1):=by
 unfold My
 by_cases h:t.2.2.1= -1
 ·obtain⟨r,hr⟩:∃r,(Option.bind (α:=Bool) (if(decide (t.2.2.1=(-1:Int)))=true then(if(decide ((0:Int)≤t.2.2.2.2.1))=true then(some (decide (t.2.2.2.2.1≤(1048576:Int)))) else(some false)) else(some false)) fun v1=>some v1)=some r:=by
   refine gE ?_ fun v=>⟨v,rfl⟩
   repeat' (first|exact⟨_,rfl⟩|split)
  exact⟨r,hr,fun _=>h⟩
 ·rw[aB (show¬decide (t.2.2.1=(-1:Int))=true by simpa using h)]
  exact⟨false,rfl,fun h=>(by cases h)⟩
theorem MF(c:im)(y:ji)(t:gJ)(hN:NB c.1.1):∃r,Qb c y t=some r∧(r=true→l9 c t∧SV c y t):=by
 unfold Qb
 obtain⟨b,hb,hbm⟩:=wZ t
 rw[hb,aD]
 cases b with
 |
  true=>
  rw[aA rfl]
  refine Uq ?_
  by_cases h1:y.2.1≤t.2.2.2.2.1
  ·rw[bZ h1]
   exact⟨_,rfl,fun h=>⟨Or.inr (hbm rfl),Or.inl ⟨hbm rfl,h1,bX h⟩⟩⟩
  ·rw[aB (fun h=>h1 (bX h))]
   exact⟨false,rfl,fun h=>(by cases h)⟩
 |
  false=>
  rw[aB (by decide)]
  rcases qZ c t (n:=(c.2.1.2.2.1.length:Int)) (fL _) with⟨hi,e⟩|⟨_,z,e⟩
  ·rw[e,aD]
   dsimp only
   have h1:=hi.f.mem
   obtain⟨q,hq⟩:=yO (gp (AZ c t)) (gp y) ((hN _ h1.1).2 _ h1.2)
   unfold gp AZ at hq
   refine Uq ?_
   rw[aA rfl]
   simp only[hq,aD]
   by_cases g1:y.2.1≤(AZ c t).2.1
   ·by_cases g2:(AZ c t).2.2.1≤y.2.2.1
    ·have key:∀x:Zm,(∃r,x=some r)→∃r,x=some r∧(r=true→l9 c t∧SV c y t):=fun x ⟨r,hr⟩=>⟨r,hr,fun _=>⟨Or.inl hi,Or.inr ⟨hi,g1,g2⟩⟩⟩
     apply key
     repeat' (first|exact⟨_,rfl⟩|split)
    ·unfold AZ at g2
     simp only[cD g2]
     repeat' (first|exact⟨false,rfl,fun h=>(by cases h)⟩|split)
   ·unfold AZ at g1
    simp only[cD g1]
    repeat' (first|exact⟨false,rfl,fun h=>(by cases h)⟩|split)
  ·rw[e,aD]
   exact⟨false,rfl,fun h=>(by cases h)⟩
theorem VL(c:im)(a:zL)(hN:NB c.1.1)(hU:UO c.1.1)(e:Zv)(he:e.length≤1000):∀(n i:Nat)(g:List ji),e.length -i<n→i≤e.length→g.length≤i→(∀y∈g,GT c.1.1 y)→(∀j(hj:j<e.length),j<i→l9 c e[j])→
 (∃g',sr n ((e.length:Int),(i:Int),c,a,e,g)=some (.aX (c,a,g'))∧g'.length≤e.length∧(∀y∈g',GT c.1.1 y)∧∀t∈e,l9 c t)∨sr n ((e.length:Int),(i:Int),c,a,e,g)=some (.ret false):=by
 intro n
 have hB:=hB
 induction n with
 |zero=>intro i g h;omega
 |
  succ n ih=>
  intro i g hn hi hgl hg hd
  unfold sr at ih ⊢
  rw[aK]
  generalize aL _ n=rec at ih ⊢
  dsimp only
  by_cases h:i<e.length
  ·rw[bZ (by omega),dH i,aA (show(i:Int)<(e.length:Int) by omega),cH (t:=aZ) h,bS (by omega)]
   rcases qZ c e[i] (n:=(c.2.1.2.2.1.length:Int)) (fL _) with⟨hit,e1⟩|⟨_,y,e1⟩
   ·rw[e1,aD]
    dsimp only
    rw[aB (by decide),aD,aB (by decide),aA rfl,aA (show(g.length+List.length [_])*72≤aF by rw[bF];omega)]
    exact ih (i+1) _ (by omega) (by omega) (by rw[cz,bF];omega) (fun z hz=>by
     rcases List.mem_append.1 hz with hz|hz
     ·exact hg z hz
     ·rw[ln] at hz
      subst hz
      exact hit.gt hN hU) fun j hj hji=>by
     by_cases ej:j=i
     ·subst ej;exact Or.inl hit
     ·exact hd j hj (by omega)
   ·rw[e1,aD]
    dsimp only
    obtain⟨b,hb,hbm⟩:=wZ e[i]
    rw[aA (by decide),hb,aD,aD]
    cases b with
    |false=>rw[aA (by decide)];exact Or.inr rfl
    |
     true=>
     rw[aB (by decide),aB (by decide)]
     exact ih (i+1) g (by omega) (by omega) (by omega) hg fun j hj hji=>by
      by_cases ej:j=i
      ·subst ej;exact Or.inr (hbm rfl)
      ·exact hd j hj (by omega)
  ·rw[eG (by omega)]
   refine Or.inl ⟨g,rfl,by omega,hg,fun t ht=>?_⟩
   obtain⟨j,hj,rfl⟩:=iB ht
   exact hd j hj (by omega)
theorem Ro(a:zL)(g:List ji)(hg:g.length≤1000):∀(n i:Nat),g.length -i<n→i≤g.length→∃r,aI (U:=Unit) (qY n ((g.length:Int),(i:Int),a,g)) (fun _=>some true)=some r:=by
 intro n
 induction n with
 |zero=>intro i h;omega
 |
  succ n ih=>
  intro i hn hi
  unfold qY at ih ⊢
  rw[aK]
  generalize aL _ n=rec at ih ⊢
  dsimp only
  by_cases h:i<g.length
  ·rw[bZ (by omega),dH i,aA (show(i:Int)<(g.length:Int) by omega),bS (by omega)]
   have key:∀v:Bool,∃r,aI (U:=Unit) (Option.bind (α:=Bool) (if(decide (a.1=(2:Int)))=true then(some (!v)) else(if(decide (a.1=(3:Int)))=true then(some (!v)) else(some false))) fun v16=>if v16=true then(cU (some false)) else(rec ((g.length:Int),((i+1:Nat):Int),a,g))) (fun _=>some true)=some r:=by
    intro v
    have h2:∀w:Bool,∃r,aI (U:=Unit) (if w=true then(cU (some false)) else(rec ((g.length:Int),((i+1:Nat):Int),a,g))) (fun _=>some true)=some r:=fun w=>by
     cases w with
     |true=>exact⟨_,rfl⟩
     |false=>exact ih (i+1) (by omega) (by omega)
    split
    ·exact h2 (!v)
    ·split
     ·exact h2 (!v)
     ·exact h2 false
   split
   ·exact key _
   ·exact key _
  ·rw[eG (by omega)]
   exact⟨_,rfl⟩
theorem Lq(c:im)(a:zL)(hN:NB c.1.1)(hU:UO c.1.1):∃r,Qa c a=some r∧(r=true→l9 c a.2.1∧l9 c a.2.2.1):=by
 have hB:=hB
 unfold Qa
 by_cases h1:a.1<1
 ·rw[bZ h1];exact⟨_,rfl,fun h=>(by cases h)⟩
 ·rw[aB (show¬decide (a.1<(1:Int))=true by simpa using h1)]
  by_cases h2:(4:Int)<a.1
  ·rw[bQ h2];exact⟨_,rfl,fun h=>(by cases h)⟩
  ·rw[cD h2,aD,aB (by decide),aC]
   dsimp only
   rcases VL c a hN hU [a.2.1,a.2.2.1] (by simp) 3 0 [] (by simp) (by simp) (by simp) (fun y hy=>(by cases hy)) (fun j hj h=>by omega) with⟨g,e,hgl,hg,ht⟩|e
   ·have e':sr (Int.toNat (List.length [a.2.1,a.2.2.1]:Int)+1) ((List.length [a.2.1,a.2.2.1]:Int),(0:Int),c,a,[a.2.1,a.2.2.1],([]:List ji))=some (.aX (c,a,g)):=e
    rw[e',aC]
    dsimp only
    have hgl2:g.length≤2:=hgl
    have key:∀x:Zm,(∃r,x=some r)→∃r,x=some r∧(r=true→l9 c a.2.1∧l9 c a.2.2.1):=fun x ⟨r,hr⟩=>⟨r,hr,fun _=>⟨ht _ (by simp),ht _ (by simp)⟩⟩
    apply key
    have h16:∃r,aI (U:=Unit) (qY (Int.toNat (List.length g:Int)+1) ((List.length g:Int),(0:Int),a,g)) (fun _=>some true)=some r:=Ro a g (by omega) _ 0 (by omega) (by omega)
    have h3:∀v:Bool,∃r,aI (U:=zL×List ji) (if v=true then(cU (some false)) else(some (.aX (a,g)))) (fun u=>match u with|⟨x,f⟩=>aI (U:=Unit) (qY (Int.toNat (List.length f:Int)+1) ((List.length f:Int),(0:Int),x,f)) fun _=>some true)=some r:=fun v=>by
     cases v with
     |true=>exact⟨_,rfl⟩
     |false=>exact h16
    by_cases g0:(g.length:Int)=0
    ·rw[bZ g0]
     exact h3 true
    ·rw[aB (show¬decide ((g.length:Int)=(0:Int))=true by simpa using g0)]
     by_cases g2:(g.length:Int)=2
     ·rw[bZ g2,aA (by omega),aA (by omega)]
      have m0:=hg _ (bA (t:=qI) (l:=g) (a:=0) (by omega) (by omega))
      have m1:=hg _ (bA (t:=qI) (l:=g) (a:=1) (by omega) (by omega))
      obtain⟨q,hq⟩:=yP c.1 (nth qI g (0:Int)) (nth qI g (1:Int)) m0.1 m0.2 m1.2
      rw[hq]
      exact h3 _
     ·rw[aB (show¬decide ((g.length:Int)=(2:Int))=true by simpa using g2)]
      exact h3 false
   ·have e':sr (Int.toNat (List.length [a.2.1,a.2.2.1]:Int)+1) ((List.length [a.2.1,a.2.2.1]:Int),(0:Int),c,a,[a.2.1,a.2.2.1],([]:List ji))=some (.ret false):=e
    rw[e',i6]
    exact⟨_,rfl,fun h=>(by cases h)⟩
structure RK(c:im):Prop where
 n1:1≤c.2.1.2.2.1.length
 n3:c.2.1.2.2.1.length≤3
 fo:∀j<c.2.1.2.2.1.length,FO c j
 wh:∀a∈c.2.1.2.2.2.1,l9 c a.2.1∧l9 c a.2.2.1
 h0:0≤c.2.1.2.1
 h1:c.2.1.2.1<(c.1.1.2.2.1.length:Int)
 st:∀s∈c.2.1.2.2.2.2.1,Hz c.1.1 c.2.1.2.1 s.2.1∧l9 c s.2.2.1
 sv:∀s∈c.2.1.2.2.2.2.1,s.2.1≠0∧SV c (nth cM (aP c.1.1 c.2.1.2.1) s.2.1).2.1 s.2.2.1
 sd:(c.2.1.2.2.2.2.1.map (·.2.1)).Nodup
 sn:(c.2.1.2.2.2.2.1.length:Int)=aV (((aP c.1.1 c.2.1.2.1).length:Int) -(1:Int))
theorem VM(c:im)(hN:NB c.1.1)(hU:UO c.1.1)(l:ZC)(hl:l.length≤aF):∀(n i:Nat),l.length -i<n→i≤l.length→(∀j(hj:j<l.length),j<i→l9 c l[j].2.1∧l9 c l[j].2.2.1)→
 (vR n (l,(l.length:Int),(i:Int),c)=some (.aX c)∧∀a∈l,l9 c a.2.1∧l9 c a.2.2.1)∨vR n (l,(l.length:Int),(i:Int),c)=some (.ret false):=by
 intro n
 have hB:=hB
 induction n with
 |zero=>intro i h;omega
 |
  succ n ih=>
  intro i hn hi hd
  unfold vR at ih ⊢
  rw[aK]
  generalize aL _ n=rec at ih ⊢
  dsimp only
  by_cases h:i<l.length
  ·obtain⟨r,hr,hm⟩:=Lq c l[i] hN hU
   rw[bZ (by omega),dH i,aA (show(i:Int)<(l.length:Int) by omega),cH (t:=cF) h,bS (by omega),hr,aD]
   cases r with
   |false=>rw[aA (by decide)];exact Or.inr rfl
   |
    true=>
    rw[aB (by decide)]
    exact ih (i+1) (by omega) (by omega) fun j hj hji=>by
     by_cases ej:j=i
     ·subst ej;exact hm rfl
     ·exact hd j hj (by omega)
  ·rw[eG (by omega)]
   refine Or.inl ⟨rfl,fun t ht=>?_⟩
   obtain⟨j,hj,rfl⟩:=iB ht
   exact hd j hj (by omega)
theorem Rp(c:im)(hN:NB c.1.1)(h0:Int)(l:ZD)(hl:l.length*80≤aF):∀(n i:Nat)(g:Zd),l.length -i<n→i≤l.length→g=(l.take i).map (·.2.1)→(∀j(hj:j<l.length),j<i→Hz c.1.1 h0 l[j].2.1∧l9 c l[j].2.2.1∧l[j].2.1≠0∧SV c (nth cM (aP c.1.1 h0) l[j].2.1).2.1 l[j].2.2.1)→
 (∃g',su n (h0,l,(l.length:Int),(i:Int),c,g)=some (.aX g')∧g'=l.map (·.2.1)∧∀s∈l,Hz c.1.1 h0 s.2.1∧l9 c s.2.2.1∧s.2.1≠0∧SV c (nth cM (aP c.1.1 h0) s.2.1).2.1 s.2.2.1)∨su n (h0,l,(l.length:Int),(i:Int),c,g)=some (.ret false):=by
 intro n
 have hB:=hB
 induction n with
 |zero=>intro i g h;omega
 |
  succ n ih=>
  intro i g hn hi hgl hd
  unfold su at ih ⊢
  rw[aK]
  generalize aL _ n=rec at ih ⊢
  dsimp only
  by_cases h:i<l.length
  ·rw[bZ (by omega),dH i,aA (show(i:Int)<(l.length:Int) by omega),cH (t:=dE) h,bS (by omega)]
   rcases gz c.1 h0 l[i].2.1 with⟨hit,e1⟩|⟨_,y,e1⟩
   ·rw[e1,aD]
    dsimp only
    rw[aB (by decide)]
    by_cases hz:l[i].2.1=0
    ·rw[bZ hz,aD,aA rfl];exact Or.inr rfl
    ·obtain⟨r,hr,hm⟩:=MF c (nth cM (aP c.1.1 h0) l[i].2.1).2.1 l[i].2.2.1 hN
     rw[aB (show¬decide (l[i].2.1=(0:Int))=true by simpa using hz),hr,aD,aD]
     cases r with
     |false=>rw[aA (by decide)];exact Or.inr rfl
     |
      true=>
      rw[aB (by decide),aA (show(g.length+List.length [_])*8≤aF by rw[bF,hgl,gm,gv];omega)]
      exact ih (i+1) _ (by omega) (by omega) (by rw[hgl,←List.take_append_getElem h,qD];rfl) fun j hj hji=>by
       by_cases ej:j=i
       ·subst ej;exact⟨hit,(hm rfl).1,hz,(hm rfl).2⟩
       ·exact hd j hj (by omega)
   ·rw[e1,aD]
    dsimp only
    rw[aA (by decide),aD,aA rfl];exact Or.inr rfl
  ·rw[eG (by omega)]
   refine Or.inl ⟨g,rfl,by rw[hgl,jU (by omega)],fun t ht=>?_⟩
   obtain⟨j,hj,rfl⟩:=iB ht
   exact hd j hj (by omega)
theorem Lr(c:im)(hN:NB c.1.1)(hU:UO c.1.1)(hf:c.2.1.2.2.1.length≤aF)(hw:c.2.1.2.2.2.1.length≤aF)(hs:c.2.1.2.2.2.2.1.length*80≤aF):∃r,Yt c=some r∧(r=true→RK c):=by
 have hB:=hB
 have no:∀x:Zm,x=some false→∃r,x=some r∧(r=true→RK c):=fun x hx=>⟨false,hx,fun h=>(by cases h)⟩
 unfold Yt
 rcases HC c hf with⟨e,h1,h3,hfo⟩|e
 ·rw[e,aD,aB (by decide)]
  by_cases h8:(8:Int)<(c.2.1.2.2.2.1.length:Int)
  ·rw[bQ h8];exact no _ rfl
  ·rw[cD h8,aD,aB (by decide),aC]
   rcases VM c hN hU c.2.1.2.2.2.1 hw (c.2.1.2.2.2.1.length+1) 0 (by omega) (by omega) (fun j hj h=>by omega) with⟨e4,hwh⟩|e4
   ·have e4':vR (Int.toNat (List.length c.2.1.2.2.2.1:Int)+1) (c.2.1.2.2.2.1,(List.length c.2.1.2.2.2.1:Int),(0:Int),c)=some (.aX c):=e4
    rw[e4',aC]
    by_cases d1:c.2.1.2.1<0
    ·rw[bZ d1];exact no _ rfl
    ·rw[aB (show¬decide (c.2.1.2.1<(0:Int))=true by simpa using d1)]
     by_cases d2:(c.1.1.2.2.1.length:Int)≤c.2.1.2.1
     ·rw[bZ d2];exact no _ rfl
     ·rw[aB (show¬decide ((c.1.1.2.2.1.length:Int)≤c.2.1.2.1)=true by simpa using d2),aA (Int.not_lt.1 d1),aA (Int.not_le.1 d2),aD]
      by_cases hsn:(c.2.1.2.2.2.2.1.length:Int)=aV (((aP c.1.1 c.2.1.2.1).length:Int) -(1:Int))
      rotate_left
      ·unfold aP at hsn
       rw[aA (by simpa using hsn)];exact no _ rfl
      ·have hsn':=hsn
       unfold aP at hsn'
       rw[aB (by simp[hsn']),aC]
       dsimp only
       rcases Rp c hN c.2.1.2.1 c.2.1.2.2.2.2.1 hs (c.2.1.2.2.2.2.1.length+1) 0 [] (by omega) (by omega) rfl (fun j hj h=>by omega) with⟨g,e14,hgl,hst⟩|e14
       ·have e14':su (Int.toNat (List.length c.2.1.2.2.2.2.1:Int)+1) (c.2.1.2.1,c.2.1.2.2.2.2.1,(List.length c.2.1.2.2.2.2.1:Int),(0:Int),c,([]:Zd))=some (.aX g):=e14
        rw[e14',aC]
        obtain⟨q,hq,hqd⟩:=Lm g (by rw[hgl,gm];omega)
        rw[hq]
        exact⟨q,rfl,fun hq1=>⟨h1,h3,hfo,hwh,Int.not_lt.1 d1,Int.not_le.1 d2,fun s hs=>⟨(hst s hs).1,(hst s hs).2.1⟩,fun s hs=>(hst s hs).2.2,hgl▸hqd hq1,hsn⟩⟩
       ·have e14':su (Int.toNat (List.length c.2.1.2.2.2.2.1:Int)+1) (c.2.1.2.1,c.2.1.2.2.2.2.1,(List.length c.2.1.2.2.2.2.1:Int),(0:Int),c,([]:Zd))=some (.ret false):=e14
        rw[e14',i6];exact no _ rfl
   ·have e4':vR (Int.toNat (List.length c.2.1.2.2.2.1:Int)+1) (c.2.1.2.2.2.1,(List.length c.2.1.2.2.2.1:Int),(0:Int),c)=some (.ret false):=e4
    rw[e4',i6];exact no _ rfl
 ·rw[e,aD,aA (by decide)];exact no _ rfl
theorem MG(x:ZE)(a b:Int)(w:Fl)(c:kN):∀(n i:Nat),4 -i<n→i≤4→vQ n (x,a,b,w,(i:Int),c)=some (.aX (x,a,b,c))∨vQ n (x,a,b,w,(i:Int),c)=some (.ret (.ret false)):=by
 intro n
 induction n with
 |zero=>intro i h;omega
 |
  succ n ih=>
  intro i hn hi
  unfold vQ at ih ⊢
  rw[aK]
  generalize aL _ n=rec at ih ⊢
  dsimp only
  by_cases h:i<4
  ·rw[bZ (by omega),dH i,aA (show(i:Int)<4 by omega),bS (by omega)]
   have h2:∀v:Bool,(if v=true then(cU (cU (some false))) else(rec (x,a,b,w,((i+1:Nat):Int),c)))=some (.aX (x,a,b,c))∨(if v=true then(cU (cU (some false))) else(rec (x,a,b,w,((i+1:Nat):Int),c)))=some (.ret (.ret false)):=fun v=>by
    cases v with
    |true=>exact Or.inr rfl
    |false=>exact ih (i+1) (by omega) (by omega)
   split
   ·exact h2 true
   ·exact h2 _
  ·rw[eG (by omega)]
   exact Or.inl rfl
theorem MH(c:kN)(l:ZE)(hl:l.length≤aF)(hn:∀f∈l,(gp f.2.1).length≤aF):∀(n i:Nat),l.length -i<n→i≤l.length→(∀j(hj:j<l.length),j<i→uj c l[j].2.1=some true)→
 (aI (U:=Unit) (B8 n (l,(l.length:Int),(i:Int),c)) (fun _=>some true)=some true∧∀f∈l,uj c f.2.1=some true)∨aI (U:=Unit) (B8 n (l,(l.length:Int),(i:Int),c)) (fun _=>some true)=some false:=by
 intro n
 have hB:=hB
 induction n with
 |zero=>intro i h;omega
 |
  succ n ih=>
  intro i hn' hi hd
  unfold B8 at ih ⊢
  rw[aK]
  generalize aL _ n=rec at ih ⊢
  dsimp only
  by_cases h:i<l.length
  ·obtain⟨r,hr⟩:=lB c l[i].2.1 (hn _ (lq h))
   rw[bZ (by omega),dH i,aA (show(i:Int)<(l.length:Int) by omega),cH (t:=cM) h,hr,aD]
   cases r with
   |false=>rw[aA (by decide)];exact Or.inr rfl
   |
    true=>
    rw[aB (by decide)]
    have e9:=MG l (l.length:Int) (i:Int) l[i].2.2.1 c (Int.toNat (4:Int)+1) 0 (by decide) (by decide)
    rcases e9 with e9|e9
    ·have e9':vQ (Int.toNat (4:Int)+1) (l,(l.length:Int),(i:Int),l[i].2.2.1,(0:Int),c)=some (.aX (l,(l.length:Int),(i:Int),c)):=e9
     rw[e9',aC]
     dsimp only
     rw[bS (by omega)]
     exact ih (i+1) (by omega) (by omega) fun j hj hji=>by
      by_cases ej:j=i
      ·subst ej;exact hr
      ·exact hd j hj (by omega)
    ·have e9':vQ (Int.toNat (4:Int)+1) (l,(l.length:Int),(i:Int),l[i].2.2.1,(0:Int),c)=some (.ret (.ret false)):=e9
     rw[e9',i6]
     exact Or.inr rfl
  ·rw[eG (by omega)]
   refine Or.inl ⟨rfl,fun t ht=>?_⟩
   obtain⟨j,hj,rfl⟩:=iB ht
   exact hd j hj (by omega)
theorem w6(c:kN)(x:pQ)(hl:x.2.2.2.2.1.length≤aF)(hn:∀f∈x.2.2.2.2.1,(gp f.2.1).length≤aF):∃r,Yp c x=some r∧(r=true→(1≤x.2.2.2.2.1.length∧(nth cM x.2.2.2.2.1 (0:Int)).2.1.1=3)∧∀f∈x.2.2.2.2.1,uj c f.2.1=some true):=by
 have no:∀y:Zm,y=some false→∃r,y=some r∧(r=true→(1≤x.2.2.2.2.1.length∧(nth cM x.2.2.2.2.1 (0:Int)).2.1.1=3)∧∀f∈x.2.2.2.2.1,uj c f.2.1=some true):=fun y hy=>⟨false,hy,fun h=>(by cases h)⟩
 unfold Yp
 by_cases h1:x.2.2.1<0
 ·rw[bZ h1];exact no _ rfl
 ·rw[aB (show¬decide (x.2.2.1<(0:Int))=true by simpa using h1)]
  by_cases h2:(c.1.1.length:Int)≤x.2.2.1
  ·rw[bZ h2];exact no _ rfl
  ·rw[aB (show¬decide ((c.1.1.length:Int)≤x.2.2.1)=true by simpa using h2)]
   by_cases h3:x.2.2.2.1<1
   ·rw[bZ h3];exact no _ rfl
   ·rw[aB (show¬decide (x.2.2.2.1<(1:Int))=true by simpa using h3)]
    by_cases h4:(255:Int)<x.2.2.2.1
    ·rw[bZ h4];exact no _ rfl
    ·rw[aB (show¬decide ((255:Int)<x.2.2.2.1)=true by simpa using h4)]
     by_cases h5:(x.2.2.2.2.1.length:Int)<1
     ·rw[bZ h5];exact no _ rfl
     ·rw[aB (show¬decide ((x.2.2.2.2.1.length:Int)<(1:Int))=true by simpa using h5)]
      by_cases h6:(12:Int)<(x.2.2.2.2.1.length:Int)
      ·rw[bZ h6];exact no _ rfl
      ·rw[aB (show¬decide ((12:Int)<(x.2.2.2.2.1.length:Int))=true by simpa using h6),aA (show(0:Int)<(x.2.2.2.2.1.length:Int) by omega),aD]
       by_cases h7:(nth cM x.2.2.2.2.1 (0:Int)).2.1.1=3
       rotate_left
       ·rw[aA (by simpa using h7)];exact no _ rfl
       ·rw[aB (by simp[h7]),aC]
        dsimp only
        rcases MH c x.2.2.2.2.1 hl hn (x.2.2.2.2.1.length+1) 0 (by omega) (by omega) (fun j hj h=>by omega) with⟨e,h⟩|e
        ·exact⟨true,e,fun _=>⟨⟨by omega,h7⟩,h⟩⟩
        ·exact no _ e
theorem A0(c:kN)(p:sY)(hp:p.2.1.length≤aF):∃r,Yv c p=some r:=by
 have hB:=hB
 have key:∀(n i:Nat),p.2.1.length -i<n→i≤p.2.1.length→vT n (p.2.1,(p.2.1.length:Int),(i:Int),c,p)=some (.aX p)∨vT n (p.2.1,(p.2.1.length:Int),(i:Int),c,p)=some (.ret false):=by
  intro n
  induction n with
  |zero=>intro i h;omega
  |
   succ n ih=>
   intro i hn hi
   unfold vT at ih ⊢
   rw[aK]
   generalize aL _ n=rec at ih ⊢
   dsimp only
   by_cases h:i<p.2.1.length
   ·rw[bZ (by omega),dH i,aA (show(i:Int)<(p.2.1.length:Int) by omega),bS (by omega)]
    rcases gz c (nth iE p.2.1 (i:Int)).2.2.1 (nth iE p.2.1 (i:Int)).2.2.2.1 with⟨_,e1⟩|⟨_,y,e1⟩
    ·rw[e1,aD]
     dsimp only
     rw[aB (by decide)]
     exact ih (i+1) (by omega) (by omega)
    ·rw[e1,aD]
     exact Or.inr rfl
   ·rw[eG (by omega)]
    exact Or.inl rfl
 unfold Yv
 have e:=key (Int.toNat (List.length p.2.1:Int)+1) 0 (by omega) (by omega)
 rcases e with e|e
 ·have e':vT (Int.toNat (List.length p.2.1:Int)+1) (p.2.1,(List.length p.2.1:Int),(0:Int),c,p)=some (.aX p):=e
  rw[e',aC]
  refine gE ?_ fun v=>⟨v,rfl⟩
  repeat' (first|exact⟨_,rfl⟩|split)
 ·have e':vT (Int.toNat (List.length p.2.1:Int)+1) (p.2.1,(List.length p.2.1:Int),(0:Int),c,p)=some (.ret false):=e
  rw[e',i6]
  exact⟨_,rfl⟩
structure SW(s:bD):Prop where
 kF:s.2.1.length≤aF
 dh:s.2.2.1.length≤aF
 rules:s.2.2.2.1.length≤aF
 dV:s.2.2.2.2.2.1.length≤aF
 nb:NB s
 rl:∀r∈s.2.2.2.1,r.2.2.1.length≤aF∧r.2.2.2.1.length≤aF∧r.2.2.2.2.1.length*80≤aF
 may:∀p∈s.2.2.2.2.2.1,p.2.1.length≤aF
structure TG(s:bD):Prop where
 many:s.2.2.1.length≤16
 fields:∀x∈s.2.2.1,1≤x.2.2.2.2.1.length
 ok:∀x∈s.2.2.1,∀f∈x.2.2.2.2.1,uj (s,()) f.2.1=some true
 kF:UO s
 rules:∀r∈s.2.2.2.1,RK ((s,()),(r,()))
 self:∀x∈s.2.2.1,(nth cM x.2.2.2.2.1 (0:Int)).2.1.1=3
 uok:∀u∈s.2.1,Up (s,()) u=some true
theorem HD(s:bD)(h:s.2.2.2.2.2.1.length≤aF):∃r,f80 (s,())=some r∧(r=true→s.2.2.1.length≤16):=by
 have no:∀y:Zm,y=some false→∃r,y=some r∧(r=true→s.2.2.1.length≤16):=fun y hy=>⟨false,hy,fun h=>(by cases h)⟩
 unfold f80
 obtain⟨i,hi,_⟩:=alT fj Vc s.2.2.2.2.2.1 (fun p=>decide ((64:Int)<(p.2.1.length:Int))) (fun x _=>rfl) h
 have e1:xN s.2.2.2.2.2.1=some (decide ((0:Int)≤i)):=by
  unfold xN
  have:B4 s.2.2.2.2.2.1=some i:=hi
  rw[this];rfl
 dsimp only
 by_cases h1:(8:Int)<(s.1.length:Int)
 ·rw[bZ h1];exact no _ rfl
 ·rw[aB (show¬decide ((8:Int)<(s.1.length:Int))=true by simpa using h1)]
  by_cases h2:(64:Int)<(s.2.1.length:Int)
  ·rw[bZ h2];exact no _ rfl
  ·rw[aB (show¬decide ((64:Int)<(s.2.1.length:Int))=true by simpa using h2)]
   by_cases h3:(16:Int)<(s.2.2.1.length:Int)
   ·rw[bZ h3];exact no _ rfl
   ·rw[aB (show¬decide ((16:Int)<(s.2.2.1.length:Int))=true by simpa using h3)]
    have yes:∀y:Zm,(∃r,y=some r)→∃r,y=some r∧(r=true→s.2.2.1.length≤16):=fun y ⟨r,hr⟩=>⟨r,hr,fun _=>by omega⟩
    apply yes
    refine gE ?_ fun v=>?_
    ·repeat' (first|exact⟨_,rfl⟩|split)
    ·cases v with
     |true=>exact⟨_,rfl⟩
     |false=>rw[aB (by decide),e1];exact⟨_,rfl⟩
theorem ED(s:bD)(h:s.2.1.length≤aF):∃r,B7 s.2.1 (s,())=some r∧(r=true→∀u∈s.2.1,Up (s,()) u=some true):=by
 have hp:∀x∈s.2.1,uk x (s,())=some (!((Up (s,()) x).getD false),(s,())):=fun x _=>by
  obtain⟨r,hr⟩:=lC (s,()) x
  unfold uk
  rw[hr];rfl
 obtain⟨i,hi,him⟩:=Un aZ uk s.2.1 (s,()) _ hp h
 have e:B5 s.2.1 (s,())=some (i,(s,())):=hi
 unfold B7 B6
 rw[e]
 refine⟨_,rfl,fun hr x hx=>?_⟩
 obtain⟨r,hr2⟩:=lC (s,()) x
 cases r with
 |true=>exact hr2
 |
  false=>
  have:0≤i:=him.2 ⟨x,hx,by rw[hr2];rfl⟩
  simp[this] at hr
theorem CI(s:bD)(hs:SW s):∃r,Cb s.2.2.1 (s,())=some r∧(r=true→∀x∈s.2.2.1,(1≤x.2.2.2.2.1.length∧(nth cM x.2.2.2.2.1 (0:Int)).2.1.1=3)∧∀f∈x.2.2.2.2.1,uj (s,()) f.2.1=some true):=by
 have hp:∀x∈s.2.2.1,um x (s,())=some (!((Yp (s,()) x).getD false),(s,())):=fun x hx=>by
  obtain⟨r,hr,_⟩:=w6 (s,()) x (hs.nb x hx).1 (hs.nb x hx).2
  unfold um
  rw[hr];rfl
 obtain⟨i,hi,him⟩:=Un aR um s.2.2.1 (s,()) _ hp hs.dh
 have e:B9 s.2.2.1 (s,())=some (i,(s,())):=hi
 unfold Cb Ca
 rw[e]
 refine⟨_,rfl,fun hr x hx=>?_⟩
 obtain⟨r,hr2,hm⟩:=w6 (s,()) x (hs.nb x hx).1 (hs.nb x hx).2
 cases r with
 |true=>exact hm rfl
 |
  false=>
  have:0≤i:=him.2 ⟨x,hx,by rw[hr2];rfl⟩
  simp[this] at hr
theorem HE(s:bD)(hs:SW s)(hU:UO s):∃r,Cf s.2.2.2.1 (s,())=some r∧(r=true→∀x∈s.2.2.2.1,RK ((s,()),(x,()))):=by
 have hk:=fun x(hx:x∈s.2.2.2.1)=>Lr ((s,()),(x,())) hs.nb hU (hs.rl x hx).1 (hs.rl x hx).2.1 (hs.rl x hx).2.2
 have hp:∀x∈s.2.2.2.1,uq x (s,())=some (!((Yt ((s,()),(x,()))).getD false),(s,())):=fun x hx=>by
  obtain⟨r,hr,_⟩:=hk x hx
  unfold uq Hm
  rw[hr];rfl
 obtain⟨i,hi,him⟩:=Un bW uq s.2.2.2.1 (s,()) _ hp hs.rules
 have e:Cd s.2.2.2.1 (s,())=some (i,(s,())):=hi
 unfold Cf Ce
 rw[e]
 refine⟨_,rfl,fun hr x hx=>?_⟩
 obtain⟨r,hr2,hm⟩:=hk x hx
 cases r with
 |true=>exact hm rfl
 |
  false=>
  have:0≤i:=him.2 ⟨x,hx,by rw[hr2];rfl⟩
  simp[this] at hr
theorem yQ(s:bD)(hs:SW s):∃r,Ci s.2.2.2.2.2.1 (s,())=some r:=by
 have hp:∀x∈s.2.2.2.2.2.1,ur x (s,())=some (!((Yv (s,()) x).getD false),(s,())):=fun x hx=>by
  obtain⟨r,hr⟩:=A0 (s,()) x (hs.may x hx)
  unfold ur
  rw[hr];rfl
 obtain⟨i,hi,_⟩:=Un fj ur s.2.2.2.2.2.1 (s,()) _ hp hs.dV
 have e:Cg s.2.2.2.2.2.1 (s,())=some (i,(s,())):=hi
 unfold Ci Ch
 rw[e];exact⟨_,rfl⟩
theorem Bh(s:bD)(hs:SW s):∃r,Yw s=some r∧(r=0→TG s):=by
 have no:∀(y:ZW)(z:Int),z≠0→y=some z→∃r,y=some r∧(r=0→TG s):=fun y z hz hy=>⟨z,hy,fun h=>absurd h hz⟩
 unfold Yw
 obtain⟨b,hb,hbm⟩:=HD s hs.dV
 rw[hb,aD]
 cases b with
 |false=>rw[aA (by decide)];exact no _ 2 (by decide) rfl
 |
  true=>
  rw[aB (by decide)]
  obtain⟨b1,hb1,hm1⟩:=ED s hs.kF
  rw[hb1,aD]
  cases b1 with
  |false=>exact no _ 120 (by decide) rfl
  |
   true=>
   rw[aB (by decide)]
   obtain⟨b2,hb2,hm2⟩:=CI s hs
   rw[hb2,aD]
   cases b2 with
   |false=>exact no _ 120 (by decide) rfl
   |
    true=>
    rw[aB (by decide)]
    have hU:UO s:=fun x hx f hf h1=>l7 ((hm2 rfl x hx).2 f hf) h1
    obtain⟨b3,hb3,hm3⟩:=HE s hs hU
    rw[hb3,aD]
    cases b3 with
    |false=>exact no _ 120 (by decide) rfl
    |
     true=>
     rw[aB (by decide)]
     obtain⟨b4,hb4⟩:=yQ s hs
     rw[hb4,aD,aD]
     cases b4 with
     |false=>exact no _ 120 (by decide) rfl
     |true=>exact⟨0,rfl,fun _=>⟨hbm rfl,fun x hx=>(hm2 rfl x hx).1.1,fun x hx=>(hm2 rfl x hx).2,hU,hm3 rfl,fun x hx=>(hm2 rfl x hx).1.2,hm1 rfl⟩⟩
structure SS(s:bD):Prop where
 j9:s.1.length≤aF
 kF:s.2.1.length≤aF
 dh:s.2.2.1.length≤aF
 rules:s.2.2.2.1.length≤aF
 fQ:s.2.2.2.2.1.length≤aF
 dV:s.2.2.2.2.2.1.length≤aF
 fields:∀x∈s.2.2.1,x.2.2.2.2.1.length≤aF∧∀f∈x.2.2.2.2.1,(gp f.2.1).length≤aF
 sC:∀x∈s.2.2.1,x.2.2.2.2.2.1.length≤aF∧∀d∈x.2.2.2.2.2.1,d.1.length≤aF∧d.2.2.1.length≤aF
 rl:∀r∈s.2.2.2.1,r.2.2.1.length≤aF∧r.2.2.2.1.length≤aF∧r.2.2.2.2.1.length≤aF
 mv:∀c∈s.2.2.2.2.1,c.2.2.2.2.1.length≤aF
 may:∀p∈s.2.2.2.2.2.1,p.2.1.length≤aF
theorem VN(x y:Zs)(hl:y.length≤aF):∃r,UP x y=some r:=PB .str (fun a b=>decide (a=b)) x y fun e=>e▸hl
theorem agv(x y:Zd)(hl:y.length≤aF):∃r,f61 x y=some r:=PB (.int .i64) (fun a b=>decide (a=b)) x y fun e=>e▸hl
theorem yR(a b:H9)(h:(gp b.2.1).length≤aF):∃r,Pn a b=some r:=by
 obtain⟨q,hq⟩:=VN (gp a.2.1) (gp b.2.1) h
 unfold Pn
 refine gE ?_ fun v=>⟨v,rfl⟩
 unfold gp at hq
 simp only[hq,aD]
 repeat' (first|exact⟨_,rfl⟩|split)
theorem xB(a b:zJ)(h:b.1.length≤aF)(h2:b.2.2.1.length≤aF):∃r,Po a b=some r:=by
 obtain⟨q,hq⟩:=VN a.1 b.1 h
 obtain⟨q2,hq2⟩:=agv a.2.2.1 b.2.2.1 h2
 unfold Po
 refine gE ?_ fun v=>⟨v,rfl⟩
 simp only[hq,hq2,aD]
 repeat' (first|exact⟨_,rfl⟩|split)
theorem xC(a b:pQ)(h1:b.2.2.2.2.1.length≤aF∧∀f∈b.2.2.2.2.1,(gp f.2.1).length≤aF)(h2:b.2.2.2.2.2.1.length≤aF∧∀d∈b.2.2.2.2.2.1,d.1.length≤aF∧d.2.2.1.length≤aF):∃r,Pp a b=some r:=by
 obtain⟨q,hq⟩:∃r,En a.2.2.2.2.1 b.2.2.2.2.1=some r:=XW cM Pn _ _ (fun x _ y hy=>yR x y (h1.2 y hy)) fun e=>e▸h1.1
 obtain⟨q2,hq2⟩:∃r,Eo a.2.2.2.2.2.1 b.2.2.2.2.2.1=some r:=XW iD Po _ _ (fun x _ y hy=>xB x y (h2.2 y hy).1 (h2.2 y hy).2) fun e=>e▸h2.1
 unfold Pp
 refine gE ?_ fun v=>⟨v,rfl⟩
 simp only[hq,hq2,aD]
 repeat' (first|exact⟨_,rfl⟩|split)
theorem A1(a b:eQ)(h:b.2.2.1.length≤aF∧b.2.2.2.1.length≤aF∧b.2.2.2.2.1.length≤aF):∃r,Pq a b=some r:=by
 obtain⟨q1,hq1⟩:∃r,XD a.2.2.1 b.2.2.1=some r:=PB bE (fun x y=>bN bE x y) _ _ fun e=>e▸h.1
 obtain⟨q2,hq2⟩:∃r,XE a.2.2.2.1 b.2.2.2.1=some r:=PB cF (fun x y=>bN cF x y) _ _ fun e=>e▸h.2.1
 obtain⟨q3,hq3⟩:∃r,XF a.2.2.2.2.1 b.2.2.2.2.1=some r:=PB dE (fun x y=>bN dE x y) _ _ fun e=>e▸h.2.2
 unfold Pq
 refine gE ?_ fun v=>⟨v,rfl⟩
 simp only[hq1,hq2,hq3,aD]
 repeat' (first|exact⟨_,rfl⟩|split)
theorem vX(a b:wz)(h:b.2.2.2.2.1.length≤aF):∃r,Mu a b=some r:=by
 obtain⟨q1,hq1⟩:∃r,Va a.2.2.2.2.1 b.2.2.2.2.1=some r:=PB aZ (fun x y=>bN aZ x y) _ _ fun e=>e▸h
 unfold Mu
 refine gE ?_ fun v=>⟨v,rfl⟩
 simp only[hq1,aD]
 repeat' (first|exact⟨_,rfl⟩|split)
theorem vY(a b:sY)(h:b.2.1.length≤aF):∃r,Mv a b=some r:=by
 obtain⟨q1,hq1⟩:∃r,Vb a.2.1 b.2.1=some r:=PB iE (fun x y=>bN iE x y) _ _ fun e=>e▸h
 unfold Mv
 refine gE ?_ fun v=>⟨v,rfl⟩
 simp only[hq1,aD]
 repeat' (first|exact⟨_,rfl⟩|split)
theorem EE(a s:bD)(hs:SS s):∃r,Yn a s=some r:=by
 obtain⟨q1,hq1⟩:=VN a.1 s.1 hs.j9
 obtain⟨q2,hq2⟩:∃r,f98 a.2.1 s.2.1=some r:=PB aZ (fun x y=>bN aZ x y) _ _ fun e=>e▸hs.kF
 obtain⟨q3,hq3⟩:∃r,Jo a.2.2.1 s.2.2.1=some r:=XW aR Pp _ _ (fun x _ y hy=>xC x y (hs.fields y hy) (hs.sC y hy)) fun e=>e▸hs.dh
 obtain⟨q4,hq4⟩:∃r,B1 a.2.2.2.1 s.2.2.2.1=some r:=XW bW Pq _ _ (fun x _ y hy=>A1 x y (hs.rl y hy)) fun e=>e▸hs.rules
 obtain⟨q5,hq5⟩:∃r,B2 a.2.2.2.2.1 s.2.2.2.2.1=some r:=XW iN Mu _ _ (fun x _ y hy=>vX x y (hs.mv y hy)) fun e=>e▸hs.fQ
 obtain⟨q6,hq6⟩:∃r,B3 a.2.2.2.2.2.1 s.2.2.2.2.2.1=some r:=XW fj Mv _ _ (fun x _ y hy=>vY x y (hs.may y hy)) fun e=>e▸hs.dV
 unfold Yn
 refine gE ?_ fun v=>⟨v,rfl⟩
 simp only[hq1,hq2,hq3,hq4,hq5,hq6,aD]
 repeat' (first|exact⟨_,rfl⟩|split)
theorem yS(a b:Int)(h:0≤b):∃r,Qo a b=some r:=⟨_,aA h⟩
theorem YS(m:Int)(d:zJ)(l:Zd)(hl:l.length≤aF):∀(n i:Nat)(e:Int),l.length -i<n→i≤l.length→(∃e',sx n (m,e,l,(l.length:Int),(i:Int),d)=some (.aX (m,e',d)))∨sx n (m,e,l,(l.length:Int),(i:Int),d)=some (.ret false):=by
 intro n
 have hB:=hB
 induction n with
 |zero=>intro i e h;omega
 |
  succ n ih=>
  intro i e hn hi
  unfold sx at ih ⊢
  rw[aK]
  generalize aL _ n=rec at ih ⊢
  dsimp only
  by_cases h:i<l.length
  ·rw[bZ (by omega),dH i,aA (show(i:Int)<(l.length:Int) by omega),bS (by omega)]
   by_cases h0:nth (.int .i64) l (i:Int)<(0:Int)
   ·rw[bZ h0];exact Or.inr rfl
   ·rw[aB (show¬decide (nth (.int .i64) l (i:Int)<(0:Int))=true by simpa using h0)]
    obtain⟨q,hq⟩:=yS e (nth (.int .i64) l (i:Int)) (Int.not_lt.1 h0)
    rw[hq]
    have key:∀v:Bool,(∃e',(if v=true then(cU (some false)) else(if 0≤(nth (.int .i64) l (i:Int)) then(rec (m,lE .or .u64 e (IntKind.u64.wrap ((1:Int)*2^(min (Int.toNat (nth (.int .i64) l (i:Int))) 64))),l,(l.length:Int),((i+1:Nat):Int),d)) else none))=some (.aX (m,e',d)))∨(if v=true then(cU (some false)) else(if 0≤(nth (.int .i64) l (i:Int)) then(rec (m,lE .or .u64 e (IntKind.u64.wrap ((1:Int)*2^(min (Int.toNat (nth (.int .i64) l (i:Int))) 64))),l,(l.length:Int),((i+1:Nat):Int),d)) else none))=some (.ret false):=fun v=>by
     cases v with
     |true=>exact Or.inr rfl
     |
      false=>
      rw[aB (by decide),aA (Int.not_lt.1 h0)]
      exact ih (i+1) _ (by omega) (by omega)
    split
    ·exact key true
    ·exact key q
  ·rw[eG (by omega)]
   exact Or.inl ⟨e,rfl⟩
theorem CJ(d:zJ)(m:Int)(hl:d.2.2.1.length≤aF):∃r,Qp d m=some r:=by
 unfold Qp
 have e:=YS m d d.2.2.1 hl (Int.toNat (List.length d.2.2.1:Int)+1) 0 0 (by omega) (by omega)
 rcases e with⟨e',e⟩|e
 ·have h:sx (Int.toNat (List.length d.2.2.1:Int)+1) (m,(0:Int),d.2.2.1,(List.length d.2.2.1:Int),(0:Int),d)=some (.aX (m,e',d)):=e
  rw[h,aC]
  dsimp only
  refine gE ?_ fun v=>⟨v,rfl⟩
  by_cases h0:0≤d.2.2.2.1
  ·obtain⟨q,hq⟩:=yS e' d.2.2.2.1 h0
   rw[hq]
   repeat' (first|exact⟨_,rfl⟩|split)
  ·rw[aB (show¬decide ((0:Int)≤d.2.2.2.1)=true by simpa using h0)]
   repeat' (first|exact⟨_,rfl⟩|split)
 ·have h:sx (Int.toNat (List.length d.2.2.1:Int)+1) (m,(0:Int),d.2.2.1,(List.length d.2.2.1:Int),(0:Int),d)=some (.ret false):=e
  rw[h,i6]
  exact⟨_,rfl⟩
theorem YT(x:pQ)(l:Ic)(hl:l.length≤aF)(hd:∀d∈l,d.2.2.1.length≤aF):∀(n i:Nat),l.length -i<n→i≤l.length→∃r,aI (U:=Unit) (yL n (l,(l.length:Int),(i:Int),x)) (fun _=>some (0:Int))=some r:=by
 intro n
 have hB:=hB
 induction n with
 |zero=>intro i h;omega
 |
  succ n ih=>
  intro i hn hi
  unfold yL at ih ⊢
  rw[aK]
  generalize aL _ n=rec at ih ⊢
  dsimp only
  by_cases h:i<l.length
  ·obtain⟨r,hr⟩:=CJ l[i] (x.2.2.2.2.1.length:Int) (hd _ (lq h))
   rw[bZ (by omega),dH i,aA (show(i:Int)<(l.length:Int) by omega),cH (t:=iD) h,bS (by omega),hr,aD]
   cases r with
   |false=>exact⟨_,rfl⟩
   |true=>rw[aB (by decide)];exact ih (i+1) (by omega) (by omega)
  ·rw[eG (by omega)]
   exact⟨_,rfl⟩
theorem CK(x:pQ)(hl:x.2.2.2.2.2.1.length≤aF)(hd:∀d∈x.2.2.2.2.2.1,d.2.2.1.length≤aF):∃r,f90 x=some r:=by
 unfold f90
 have h4:∃r,aI (U:=Unit) (yL (Int.toNat (List.length x.2.2.2.2.2.1:Int)+1) (x.2.2.2.2.2.1,(List.length x.2.2.2.2.2.1:Int),(0:Int),x)) (fun _=>some (0:Int))=some r:=YT x _ hl hd _ 0 (by omega) (by omega)
 have h2:∀v:Bool,∃r,aI (U:=pQ) (if v=true then(cU (some (130:Int))) else(some (.aX x))) (fun v1=>aI (U:=Unit) (yL (Int.toNat (List.length v1.2.2.2.2.2.1:Int)+1) (v1.2.2.2.2.2.1,(List.length v1.2.2.2.2.2.1:Int),(0:Int),v1)) fun _=>some (0:Int))=some r:=fun v=>by
  cases v with
  |true=>exact⟨_,rfl⟩
  |false=>exact h4
 split
 ·exact h2 true
 ·split
  ·exact h2 true
  ·exact h2 _
theorem yT(s:bD)(hs:SS s):∃r,f56 s=some r:=by
 have hB:=hB
 have key:∀(n i:Nat),s.2.2.1.length -i<n→i≤s.2.2.1.length→∃r,aI (U:=Unit) (Hp n (s.2.2.1,(s.2.2.1.length:Int),(i:Int))) (fun _=>some (0:Int))=some r:=by
  intro n
  have hl:=hs.dh
  induction n with
  |zero=>intro i h;omega
  |
   succ n ih=>
   intro i hn hi
   unfold Hp at ih ⊢
   rw[aK]
   generalize aL _ n=rec at ih ⊢
   dsimp only
   by_cases h:i<s.2.2.1.length
   ·have hd:=hs.sC _ (lq h)
    obtain⟨r,hr⟩:=CK s.2.2.1[i] hd.1 fun d hdm=>(hd.2 d hdm).2
    rw[bZ (by omega),dH i,aA (show(i:Int)<(s.2.2.1.length:Int) by omega),cH (t:=aR) h,bS (by omega),hr,aD]
    split
    ·exact⟨_,rfl⟩
    ·exact ih (i+1) (by omega) (by omega)
   ·rw[eG (by omega)]
    exact⟨_,rfl⟩
 exact key _ 0 (by omega) (by omega)
theorem Ls(l:Zd)(m:Int)(hl:l.length≤1000000):∃b d,Jg l m []=some (b,d):=by
 have hB:=hB
 have key:∀(n i:Nat)(d:Zr),l.length -i<n→i≤l.length→d.length≤i→∃b d',aI (U:=Zd×Int×Zr) (wW n (l,m,l,(l.length:Int),(i:Int),d)) (fun u=>match u with|⟨a,b,c⟩=>some (decide ((List.length a:Int)=b),c))=some (b,d'):=by
  intro n
  induction n with
  |zero=>intro i d h;omega
  |
   succ n ih=>
   intro i d hn hi hd
   unfold wW at ih ⊢
   rw[aK]
   generalize aL _ n=rec at ih ⊢
   dsimp only
   by_cases h:i<l.length
   ·rw[bZ (by omega),dH i,aA (show(i:Int)<(l.length:Int) by omega)]
    split
    ·exact⟨_,_,rfl⟩
    ·rw[aA (by omega),bS (by omega)]
     exact ih (i+1) _ (by omega) (by omega) (cS (dp (kt:=.int .i64)) (by omega))
   ·rw[eG (by omega)]
    exact⟨_,_,rfl⟩
 exact key _ 0 [] (by omega) (by omega) (by simp)
theorem vW.len{s:bD}{l:Zd}(h:vW s l):l.length≤s.2.2.1.length:=jR _ l h.oz fun x hx=>(h.all x).1 hx
theorem TG.sb{s:bD}(h:TG s)(hs:SW s):SB s:=⟨by have:=h.many;omega,hs.rules,fun r hr=>(hs.rl r hr).1⟩
theorem Lt(s:bD)(hs:SW s):∃r,f91 s=some r∧(r=0→TG s):=by
 unfold f91
 obtain⟨r,hr,hm⟩:=Bh s hs
 rw[hr,aD]
 by_cases h:r=0
 ·rw[aB (by simp[h])]
  have hT:=hm h
  obtain⟨l,ok,e,ho,_⟩:=EB (hT.sb hs)
  rw[ho,aD]
  have yes:∀y:ZW,(∃z,y=some z)→∃z,y=some z∧(z=0→TG s):=fun y ⟨z,hz⟩=>⟨z,hz,fun _=>hT⟩
  apply yes
  dsimp only
  repeat' (first|exact⟨_,rfl⟩|split)
 ·rw[aA (by simp[h])]
  exact⟨r,rfl,fun h'=>absurd h' h⟩
theorem HF(s:bD)(hs:SW s):∃r,f57 s=some r∧(r=0→TG s∧∃l,W6 s=some (l,true,0)∧vW s l):=by
 unfold f57
 obtain⟨r,hr,hm⟩:=Lt s hs
 rw[hr,aD]
 by_cases h:r=0
 ·rw[aB (by simp[h])]
  have hT:=hm h
  obtain⟨l,ok,e,ho,hk⟩:=EB (hT.sb hs)
  rw[ho,aD]
  dsimp only
  by_cases he:e=0
  ·subst he
   rw[aB (by decide)]
   cases ok with
   |false=>rw[aA (by decide)];exact⟨141,rfl,fun h'=>absurd h' (by decide)⟩
   |
    true=>
    rw[aB (by decide)]
    have hR:=hk rfl rfl fun r hr=>⟨(hT.rules r hr).h0,(hT.rules r hr).h1⟩
    obtain⟨b,d,hw⟩:=Ls l (s.2.2.1.length:Int) (by have:=hR.len;have:=hT.many;omega)
    rw[hw,aD]
    have yes:∀y:ZW,(∃z,y=some z)→∃z,y=some z∧(z=0→TG s∧∃l',some (l,true,(0:Int))=some (l',true,0)∧vW s l'):=fun y ⟨z,hz⟩=>⟨z,hz,fun _=>⟨hT,l,rfl,hR⟩⟩
    apply yes
    dsimp only
    repeat' (first|exact⟨_,rfl⟩|split)
  ·rw[aA (by simp[he])]
   exact⟨e,rfl,fun h'=>absurd h' he⟩
 ·rw[aA (by simp[h])]
  exact⟨r,rfl,fun h'=>absurd h' h⟩
theorem jI(s:bD)(hN:NB s)(a b v:Int):∃r,Ed s a b v=some r:=by
 unfold Ed
 rcases gz (s,()) a b with⟨hi,e⟩|⟨_,y,e⟩
 ·rw[e,aD]
  dsimp only
  rw[aA rfl]
  have hm:=hi.mem
  obtain⟨q,hq⟩:=lB (s,()) (nth cM (aP s a) b).2.1 ((hN _ hm.1).2 _ hm.2)
  refine gE ?_ fun v=>⟨v,rfl⟩
  have hq':uj (s,()) (nth cM (aP (s,()).1 a) b).2.1=some q:=hq
  rw[hq',aD]
  repeat' (first|exact⟨_,rfl⟩|split)
 ·rw[e,aD]
  exact⟨_,rfl⟩
theorem Bi(s:bD)(hN:NB s)(a:Int):∃r,O4 s a=some r∧(r=true→0≤a∧a<(s.2.2.1.length:Int)):=by
 have hB:=hB
 have no:∀y:Zm,y=some false→∃r,y=some r∧(r=true→0≤a∧a<(s.2.2.1.length:Int)):=fun y hy=>⟨false,hy,fun h=>(by cases h)⟩
 unfold O4
 by_cases h0:a<0
 ·rw[bZ h0];exact no _ rfl
 ·rw[aB (show¬decide (a<(0:Int))=true by simpa using h0)]
  by_cases h1:(s.2.2.1.length:Int)≤a
  ·rw[bQ h1];exact no _ rfl
  ·rw[cD h1,aD,aB (by decide),aC]
   dsimp only
   rw[aA (Int.not_lt.1 h0),aA (Int.not_le.1 h1)]
   have yes:∀y:Zm,(∃z,y=some z)→∃z,y=some z∧(z=true→0≤a∧a<(s.2.2.1.length:Int)):=fun y ⟨z,hz⟩=>⟨z,hz,fun _=>⟨Int.not_lt.1 h0,Int.not_le.1 h1⟩⟩
   apply yes
   have hl:=(hN _ (bA (t:=aR) (l:=s.2.2.1) (a:=a) (Int.not_lt.1 h0) (Int.not_le.1 h1))).1
   generalize (nth aR s.2.2.1 a).2.2.2.2.1=l at hl ⊢
   have key:∀(n i:Nat),l.length -i<n→i≤l.length→sU n (a,l,l,(l.length:Int),(i:Int),s)=some (.aX l)∨sU n (a,l,l,(l.length:Int),(i:Int),s)=some (.ret false):=by
    intro n
    induction n with
    |zero=>intro i h;omega
    |
     succ n ih=>
     intro i hn hi
     unfold sU at ih ⊢
     rw[aK]
     generalize aL _ n=rec at ih ⊢
     dsimp only
     by_cases h:i<l.length
     ·rw[bZ (by omega),dH i,aA (show(i:Int)<(l.length:Int) by omega),bS (by omega)]
      obtain⟨q,hq⟩:=jI s hN a (i:Int) (nth cM l (i:Int)).2.1.2.1
      rw[hq,aD]
      cases q with
      |false=>exact Or.inr rfl
      |true=>rw[aB (by decide)];exact ih (i+1) (by omega) (by omega)
     ·rw[eG (by omega)]
      exact Or.inl rfl
   have e:=key (Int.toNat (List.length l:Int)+1) 0 (by omega) (by omega)
   rcases e with e|e
   ·have e':sU (Int.toNat (List.length l:Int)+1) (a,l,l,(List.length l:Int),(0:Int),s)=some (.aX l):=e
    rw[e',aC]
    refine gE ?_ fun v=>⟨v,rfl⟩
    by_cases hp:(0:Int)<(l.length:Int)
    ·rw[bZ hp,aA hp];exact⟨_,rfl⟩
    ·rw[aB (show¬decide ((0:Int)<(l.length:Int))=true by simpa using hp)];exact⟨_,rfl⟩
   ·have e':sU (Int.toNat (List.length l:Int)+1) (a,l,l,(List.length l:Int),(0:Int),s)=some (.ret false):=e
    rw[e',i6];exact⟨_,rfl⟩
theorem MJ(a b:ji)(n:Int):∃r,O5 a b n=some r:=by
 unfold O5
 by_cases h1:a.1=b.1
 ·rw[aB (by simp[h1])]
  by_cases e1:a.1=1
  ·rw[bZ e1,aD,aA rfl]
   repeat' (first|exact⟨_,rfl⟩|split)
  ·rw[aB (show¬decide (a.1=(1:Int))=true by simpa using e1)]
   by_cases e2:a.1=2
   ·rw[bQ e2,aD,aA rfl]
    repeat' (first|exact⟨_,rfl⟩|split)
   ·rw[cD e2,aD,aB (by decide),aC]
    dsimp only
    refine gE ?_ fun v=>⟨v,rfl⟩
    repeat' (first|exact⟨_,rfl⟩|split)
 ·rw[aA (by simp[h1])];exact⟨_,rfl⟩
theorem YU(l m:ZE)(k:Zv)(hk:k.length≤aF):∀(n i:Nat)(N O:List Bool),k.length -i<n→i≤k.length→N.length=l.length→O.length=m.length→
 ∃r,aI (U:=Unit) (AL n (l,m,k,(k.length:Int),(i:Int),N,O)) (fun _=>some true)=some r:=by
 intro n
 have hB:=hB
 induction n with
 |zero=>intro i N O h;omega
 |
  succ n ih=>
  intro i N O hn hi hN hO
  unfold AL at ih ⊢
  rw[aK]
  generalize aL _ n=rec at ih ⊢
  dsimp only
  by_cases h:i<k.length
  ·rw[bZ (by
    omega),dH i,aA (show(i:Int)<(k.length:Int) by omega)]
   generalize nth aZ k (i:Int)=mv
   by_cases h1:mv.2.2.2.1<(1:Int)
   ·rw[bZ h1];exact⟨_,rfl⟩
   ·rw[aB (show¬decide (mv.2.2.2.1<(1:Int))=true by simpa using h1)]
    by_cases h2:(l.length:Int)≤mv.2.2.2.1
    ·rw[bZ h2];exact⟨_,rfl⟩
    ·rw[aB (show¬decide ((l.length:Int)≤mv.2.2.2.1)=true by simpa using h2)]
     by_cases h3:mv.2.2.1<(1:Int)
     ·rw[bZ h3];exact⟨_,rfl⟩
     ·rw[aB (show¬decide (mv.2.2.1<(1:Int))=true by simpa using h3)]
      by_cases h4:(m.length:Int)≤mv.2.2.1
      ·rw[bZ h4];exact⟨_,rfl⟩
      ·rw[aB (show¬decide ((m.length:Int)≤mv.2.2.1)=true by simpa using h4)]
       have p0:(0:Int)≤mv.2.2.2.1:=Int.le_trans (by decide) (Int.not_lt.1 h1)
       have p1:mv.2.2.2.1<(l.length:Int):=Int.not_le.1 h2
       have q0:(0:Int)≤mv.2.2.1:=Int.le_trans (by decide) (Int.not_lt.1 h3)
       have q1:mv.2.2.1<(m.length:Int):=Int.not_le.1 h4
       have p2:mv.2.2.2.1<(N.length:Int):=by rw[hN];exact p1
       have q2:mv.2.2.1<(O.length:Int):=by rw[hO];exact q1
       rw[aA p0,aA p2]
       have key:∀v:Bool,∃r,aI (U:=Unit) (aI (U:=ZE×ZE×Zv×Int×Int×gJ×List Bool×List Bool) (if v=true then(cU (cU (some false))) else(some (.aX (l,m,k,(k.length:Int),(i:Int),mv,N,O)))) fun u=>match u with|⟨d,e,f,g,h,a,b,c⟩=>if 0≤a.2.2.2.1 then(if a.2.2.2.1<(List.length b:Int) then(if 0≤a.2.2.1 then(if a.2.2.1<(List.length c:Int) then(if 0≤a.2.2.2.1 then(if a.2.2.2.1<(List.length d:Int) then(if 0≤a.2.2.1 then(if a.2.2.1<(List.length e:Int) then(Option.bind (O5 (((nth cM d a.2.2.2.1).2).1) (((nth cM e a.2.2.1).2).1) a.2.2.2.2.1) fun y12=>if(!y12)=true then(cU (some false)) else(rec (d,e,f,g,aV (h+(1:Int)),List.set b (Int.toNat a.2.2.2.1) true,List.set c (Int.toNat a.2.2.1) true))) else none) else none) else none) else none) else none) else none) else none) else none) (fun _=>some true)=some r:=fun v=>by
        cases v with
        |true=>exact⟨_,rfl⟩
        |
         false=>
         rw[aB (by decide),aC]
         dsimp only
         rw[aA p0,aA p2,aA q0,aA q2,aA p0,aA p1,aA q0,aA q1]
         obtain⟨z,hz⟩:=MJ ((nth cM l mv.2.2.2.1).2).1 ((nth cM m mv.2.2.1).2).1 mv.2.2.2.2.1
         rw[hz,aD]
         cases z with
         |false=>exact⟨_,rfl⟩
         |
          true=>
          rw[aB (by decide),bS (by omega)]
          exact ih (i+1) _ _ (by omega) (by omega) (by rw[cK];exact hN) (by rw[cK];exact hO)
       split
       ·exact key true
       ·exact key _
  ·rw[eG (by omega)]
   exact⟨_,rfl⟩
theorem HG(s:bD)(hN:NB s)(c:wz)(hc:c.2.2.2.2.1.length≤aF):∃r,f93 s c=some r:=by
 have hB:=hB
 unfold f93
 by_cases h0:c.2.2.1=c.2.2.2.1
 ·rw[bZ h0];exact⟨_,rfl⟩
 ·rw[aB (show¬decide (c.2.2.1=c.2.2.2.1)=true by simpa using h0)]
  obtain⟨r1,e1,m1⟩:=Bi s hN c.2.2.1
  rw[e1,aD]
  cases r1 with
  |false=>exact⟨_,rfl⟩
  |
   true=>
   rw[aB (by decide)]
   obtain⟨r2,e2,m2⟩:=Bi s hN c.2.2.2.1
   rw[e2,aD,aD]
   cases r2 with
   |false=>exact⟨_,rfl⟩
   |
    true=>
    rw[aB (by decide),aC]
    dsimp only
    have a1:=m1 rfl
    have a2:=m2 rfl
    rw[aA a1.1,aA a1.2,aA a2.1,aA a2.2]
    have l1:=(hN _ (bA (t:=aR) (l:=s.2.2.1) a1.1 a1.2)).1
    have l2:=(hN _ (bA (t:=aR) (l:=s.2.2.1) a2.1 a2.2)).1
    generalize (nth aR s.2.2.1 c.2.2.1).2.2.2.2.1=l at l1 ⊢
    generalize (nth aR s.2.2.1 c.2.2.2.1).2.2.2.2.1=m at l2 ⊢
    have h8:∃r,aI (U:=Unit) (AL (Int.toNat (List.length c.2.2.2.2.1:Int)+1) (l,m,c.2.2.2.2.1,(List.length c.2.2.2.2.1:Int),(0:Int),List.replicate (Int.toNat (List.length l:Int)) false,List.replicate (Int.toNat (List.length m:Int)) false)) (fun _=>some true)=some r:=
     YU l m c.2.2.2.2.1 hc _ 0 _ _ (by omega) (by omega) (by rw[fY,dT]) (by rw[fY,dT])
    have key:∀v:Bool,∃r,aI (U:=ZE×ZE×wz) (if v=true then(cU (some false)) else(some (.aX (l,m,c)))) (fun u=>match u with|⟨c,d,e⟩=>if 0≤(List.length c:Int) then(if(List.length c:Int)≤(List.length c:Int) then(if(List.length c:Int)*(1:Int)≤(aF:Int) then(if 0≤(List.length d:Int) then(if(List.length d:Int)≤(List.length d:Int) then(if(List.length d:Int)*(1:Int)≤(aF:Int) then(aI (U:=Unit) (AL (Int.toNat (List.length e.2.2.2.2.1:Int)+1) (c,d,e.2.2.2.2.1,(List.length e.2.2.2.2.1:Int),(0:Int),List.replicate (Int.toNat (List.length c:Int)) false,List.replicate (Int.toNat (List.length d:Int)) false)) fun _=>some true) else none) else none) else none) else none) else none) else none)=some r:=fun v=>by
     cases v with
     |true=>exact⟨_,rfl⟩
     |
      false=>
      rw[aB (by decide),aC]
      dsimp only
      rw[dH _,aA (fL _),aA (by omega),dH _,aA (fL _),aA (by omega)]
      exact h8
    split
    ·exact key true
    ·exact key _
theorem HH(s:bD)(hN:NB s)(hs:SS s):∃r,f58 s=some r:=by
 have hB:=hB
 have hl:=hs.fQ
 have key:∀(n i:Nat),s.2.2.2.2.1.length -i<n→i≤s.2.2.2.2.1.length→∃r,aI (U:=Unit) (Jh n (s.2.2.2.2.1,(s.2.2.2.2.1.length:Int),(i:Int),s)) (fun _=>some (0:Int))=some r:=by
  intro n
  induction n with
  |zero=>intro i h;omega
  |
   succ n ih=>
   intro i hn hi
   unfold Jh at ih ⊢
   rw[aK]
   generalize aL _ n=rec at ih ⊢
   dsimp only
   by_cases h:i<s.2.2.2.2.1.length
   ·obtain⟨r,hr⟩:=HG s hN s.2.2.2.2.1[i] (hs.mv _ (lq h))
    rw[bZ (by omega),dH i,aA (show(i:Int)<(s.2.2.2.2.1.length:Int) by omega),cH (t:=iN) h,bS (by omega),hr,aD]
    cases r with
    |false=>exact⟨_,rfl⟩
    |true=>rw[aB (by decide)];exact ih (i+1) (by omega) (by omega)
   ·rw[eG (by omega)]
    exact⟨_,rfl⟩
 exact key _ 0 (by omega) (by omega)
theorem Lu(l:Zs)(hl:l.length≤aF):∃M b,VR l.length M∧Dh l=some (some M,b):=oV .str Sd (fun x=>x) (fun _=>rfl) l hl
theorem HI(l:Zv)(hl:l.length≤aF):∃M b,VR l.length M∧Di l=some (some M,b):=oV aZ Sg (fun x=>x.1) (fun _=>rfl) l hl
theorem CL(l:Zn)(hl:l.length≤aF):∃M b,VR l.length M∧Dj l=some (some M,b):=oV aR Sk (fun x=>x.1) (fun _=>rfl) l hl
theorem A2(l:Zy)(hl:l.length≤aF):∃M b,VR l.length M∧Dl l=some (some M,b):=oV fj Sn (fun x=>x.1) (fun _=>rfl) l hl
theorem EF(l:ZE)(hl:l.length≤aF):∃M b,VR l.length M∧Dm l=some (some M,b):=oV cM Sq (fun x=>x.1) (fun _=>rfl) l hl
theorem HJ(l:ZA)(hl:l.length≤aF):∃M b,VR l.length M∧Dn l=some (some M,b):=oV bE Su (fun x=>x.1) (fun _=>rfl) l hl
theorem find_eq{n:Nat}(m:Za)(h:VR n (bC m))(k:Zf):lh m k=some (.inl ((),()))∨∃x,lh m k=some (.inr x)∧0≤x∧x<(n:Int):=by
 unfold lh
 cases hk:ek .str k (bC m) with
 |false=>exact Or.inl (aA (by decide))
 |true=>exact Or.inr ⟨_,aB (by decide),h.get hk⟩
abbrev OM:=Za
theorem VO(s:bD)(i u m:OM)(l:Zn)(hl:l.length*96≤aF)(hf:∀x∈l,x.2.2.2.2.1.length≤aF):∀(n c:Nat)(g:Bool)(f:List OM),l.length -c<n→c≤l.length→f.length=c→(∀j(hj:j<f.length)(hj':j<l.length),VR l[j].2.2.2.2.1.length (bC f[j]))→
 ∃g' f',n8 n (g,l,(l.length:Int),(c:Int),s,i,u,m,f)=some (.aX (g',s,i,u,m,f'))∧f'.length=l.length∧∀j(hj:j<f'.length)(hj':j<l.length),VR l[j].2.2.2.2.1.length (bC f'[j]):=by
 intro n
 have hB:=hB
 induction n with
 |zero=>intro c g f h;omega
 |
  succ n ih=>
  intro c g f hn hc hfl hv
  unfold n8 at ih ⊢
  rw[aK]
  generalize aL _ n=rec at ih ⊢
  dsimp only
  by_cases h:c<l.length
  ·obtain⟨M,b,hM,e⟩:=EF l[c].2.2.2.2.1 (hf _ (lq h))
   rw[bZ (by omega),dH c,aA (show(c:Int)<(l.length:Int) by omega),cH (t:=aR) h,e,aD]
   dsimp only
   rw[aA (show(f.length+List.length [_])*8≤aF by rw[bF];omega),bS (by omega)]
   have key:∀v:Bool,∃g' f',rec (v,l,(l.length:Int),((c+1:Nat):Int),s,i,u,m,f++[some M])=some (.aX (g',s,i,u,m,f'))∧f'.length=l.length∧∀j(hj:j<f'.length)(hj':j<l.length),VR l[j].2.2.2.2.1.length (bC f'[j]):=fun v=>
    ih (
     c+1) v _ (by omega) (by omega) (by rw[cz,bF,hfl]) fun j hj hj'=>by
     by_cases ej:j<f.length
     ·rw[yV ej];exact hv j ej hj'
     ·have:j=c:=by rw[cz,bF] at hj;omega
      subst this
      rw[uD (by omega)]
      simp only[hfl,Nat.sub_self,List.getElem_singleton]
      exact hM
   split
   ·rw[aD];exact key true
   ·rw[aD];exact key b
  ·rw[eG (by omega)]
   exact⟨g,f,rfl,by omega,hv⟩
theorem VP(i u m:OM)(fs:List OM)(l:Zl)(hl:l.length≤aF)(hf:∀x∈l,x.2.2.1.length≤aF):∀(n c:Nat)(g:Bool),l.length -c<n→c≤l.length→
 ∃g',n9 n (g,l,(l.length:Int),(c:Int),i,u,m,fs)=some (.aX (g',i,u,m,fs)):=by
 intro n
 have hB:=hB
 induction n with
 |zero=>intro c g h;omega
 |
  succ n ih=>
  intro c g hn hc
  unfold n9 at ih ⊢
  rw[aK]
  generalize aL _ n=rec at ih ⊢
  dsimp only
  by_cases h:c<l.length
  ·obtain⟨M,b,_,e⟩:=HJ l[c].2.2.1 (hf _ (lq h))
   rw[bZ (by omega),dH c,aA (show(c:Int)<(l.length:Int) by omega),cH (t:=bW) h,e,aD]
   dsimp only
   rw[bS (by omega)]
   split
   ·rw[aD];exact ih (c+1) true (by omega) (by omega)
   ·rw[aD];exact ih (c+1) b (by omega) (by omega)
  ·rw[eG (by omega)]
   exact⟨g,rfl⟩
theorem Lv(s:bD)(hs:SS s)(h96:s.2.2.1.length*96≤aF):∃tw i u m fs,yg s=some (tw,i,u,m,fs)∧VR s.1.length (bC i)∧VR s.2.1.length (bC u)∧VR s.2.2.1.length (bC m)∧fs.length=s.2.2.1.length∧∀j(hj:j<fs.length)(hj':j<s.2.2.1.length),VR s.2.2.1[j].2.2.2.2.1.length (bC fs[j]):=by
 have hB:=hB
 obtain⟨M1,b1,v1,e1⟩:=Lu s.1 hs.j9
 obtain⟨M2,b2,v2,e2⟩:=HI s.2.1 hs.kF
 obtain⟨M3,b3,v3,e3⟩:=CL s.2.2.1 hs.dh
 obtain⟨M4,b4,_,e4⟩:=A2 s.2.2.2.2.2.1 hs.dV
 unfold yg
 rw[e1,aD]
 dsimp only
 rw[e2,aD]
 dsimp only
 have orT:∀(a b:Bool)(K:Bool→Option (Bool×OM×OM×OM×List OM))(P:Option (Bool×OM×OM×OM×List OM)→Prop),(∀v,P (K v))→P (Option.bind (α:=Bool) (if a=true then(some true) else(some b)) K):=fun a b K P h=>by
  cases a with
  |true=>exact h true
  |false=>exact h b
 refine orT _ _ _ (fun y=>∃tw i u m fs,y=some (tw,i,u,m,fs)∧VR s.1.length (bC i)∧VR s.2.1.length (bC u)∧VR s.2.2.1.length (bC m)∧fs.length=s.2.2.1.length∧∀j(hj:j<fs.length)(hj':j<s.2.2.1.length),VR s.2.2.1[j].2.2.2.2.1.length (bC fs[j])) fun w1=>?_
 rw[e3,aD]
 dsimp only
 refine orT _ _ _ (fun y=>∃tw i u m fs,y=some (tw,i,u,m,fs)∧VR s.1.length (bC i)∧VR s.2.1.length (bC u)∧VR s.2.2.1.length (bC m)∧fs.length=s.2.2.1.length∧∀j(hj:j<fs.length)(hj':j<s.2.2.1.length),VR s.2.2.1[j].2.2.2.2.1.length (bC fs[j])) fun w2=>?_
 rw[e4,aD]
 dsimp only
 refine orT _ _ _ (fun y=>∃tw i u m fs,y=some (tw,i,u,m,fs)∧VR s.1.length (bC i)∧VR s.2.1.length (bC u)∧VR s.2.2.1.length (bC m)∧fs.length=s.2.2.1.length∧∀j(hj:j<fs.length)(hj':j<s.2.2.1.length),VR s.2.2.1[j].2.2.2.2.1.length (bC fs[j])) fun w3=>?_
 obtain⟨g',f',e11,hl,hv⟩:=VO s (some M1) (some M2) (some M3) s.2.2.1 h96 (fun x hx=>(hs.fields x hx).1) (Int.toNat (List.length s.2.2.1:Int)+1) 0 w3 [] (by omega) (by omega) rfl (fun j hj=>by simp at hj)
 have e11':n8 (Int.toNat (List.length s.2.2.1:Int)+1) (w3,s.2.2.1,(List.length s.2.2.1:Int),(0:Int),s,some M1,some M2,some M3,([]:List OM))=some (.aX (g',s,some M1,some M2,some M3,f')):=e11
 rw[e11',aC]
 dsimp only
 obtain⟨g2,e18⟩:=VP (some M1) (some M2) (some M3) f' s.2.2.2.1 hs.rules (fun x hx=>(hs.rl x hx).1) (Int.toNat (List.length s.2.2.2.1:Int)+1) 0 g' (by omega) (by omega)
 have e18':n9 (Int.toNat (List.length s.2.2.2.1:Int)+1) (g',s.2.2.2.1,(List.length s.2.2.2.1:Int),(0:Int),some M1,some M2,some M3,f')=some (.aX (g2,some M1,some M2,some M3,f')):=e18
 rw[e18',aC]
 exact⟨g2,some M1,some M2,some M3,f',rfl,v1,v2,v3,hl,hv⟩
theorem tc{n:Nat}{m:OM}(h:VR n (bC m)){k:Zf}{R:Type}{kp:Unit×Unit→Option R}{kn:Int→Option R}{P:R→Prop}(h1:W (kp ((),())) P)(h2:∀x,0≤x→x<(n:Int)→W (kn x) P):W (gQ (lh m k) kp kn) P:=by
 rcases find_eq m h k with e|⟨x,e,h0,hx⟩
 ·rw[e];exact h1
 ·rw[e];exact h2 x h0 hx
theorem qC(m:OM){k:Zf}{R:Type}{kp:Unit×Unit→Option R}{kn:Int→Option R}{P:R→Prop}(h1:W (kp ((),())) P)(h2:∀x,W (kn x) P):W (gQ (lh m k) kp kn) P:=by
 unfold lh
 cases ek .str k (bC m) with
 |false=>exact h1
 |true=>exact h2 _
theorem Lw(i u m:OM)(l:Zv)(fs:List OM)(hl:l.length≤aF)(hv:VR l.length (bC u)):W (yh i u m l fs) (ST (fun _=>True) fun r=>∃l',r=(i,u,m,l',fs)):=by
 have hB:=hB
 unfold yh
 refine aY.2 (W.ct (bU (L:=zS) rfl (CT (fun d=>∃l',d=(i,u,m,l',fs)) fun r=>r= .inl ((),())) l.length (fun c(s:Zv)=>((l.length:Int),(c:Int),i,u,m,s,fs)) (fun _ s=>s.length=l.length) ?step ?stop _ 0 l (by omega) (by omega) rfl) (fun d ⟨l',h⟩=>?_) fun r h=>?_)
 case step=>
  intro rec c s hc hI k
  dsimp only
  rw[bZ (by omega),dH c,aA (show(c:Int)<(s.length:Int) by omega),bS (by omega)]
  split
  ·exact k _ (by rw[cK,cK];exact hI)
  ·refine tc hv ⟨_,rfl,rfl⟩ fun x h0 h1=>?_
   by_cases h:(c:Int)≤x
   ·rw[bZ h];exact⟨_,rfl,rfl⟩
   ·rw[aB (show¬decide ((c:Int)≤x)=true by simpa using h),aC]
    dsimp only
    rw[aA h0,aA (show x<(s.length:Int) by omega)]
    generalize hL:List.set _ _ _=L
    have hL':L.length=l.length:=by rw[←hL,cK,cK];exact hI
    clear hL
    rw[aC]
    dsimp only
    have hx:x<(L.length:Int):=by omega
    rw[aA h0,aA hx]
    refine W.bt ?_ fun v=>?_
    ·repeat' (first|exact⟨_,rfl⟩|split)
    ·split
     ·rw[bS (by omega)]
      exact k _ (by rw[cK];exact hL')
     ·rw[bS (by omega)]
      exact k _ hL'
 case stop=>
  intro rec s hI
  dsimp only
  rw[eG (by omega)]
  exact⟨_,rfl,s,rfl⟩
 ·subst h;exact⟨_,rfl,l',rfl⟩
 ·subst h;exact trivial
def VQ(x:pQ):Prop:=x.2.2.2.2.1.length*120≤aF∧x.2.2.2.2.2.1.length*72≤aF∧∀d∈x.2.2.2.2.2.1,d.1.length*16≤aF
theorem HK(t i u m:OM)(l:Zn)(k:Nat)(a:pQ)(fs:List OM)(hb:VQ a):W (yi t i u m l k a fs) (ST (fun _=>True) fun r=>∃x1 x2 x3 x4 x5 x6 x7,r=(i,u,m,l,k,x1,x2,x3,x4,x5,fs,x6,x7)):=by
 have hB:=hB
 unfold yi
 refine qC i ⟨_,rfl,trivial⟩ fun y1=>?_
 have e1:Dw a.2.2.2.2.1=some a.2.2.2.2.1:=lV _ _ hb.1
 rw[e1,aD]
 have l1:a.2.2.2.2.1.length≤aF:=by have:=hb.1;omega
 refine aY.2 (W.ct (bU (L:=zT) rfl (CT (fun d=>∃s',d=(t,i,u,m,l,k,a.1,a.2.1,y1,a.2.2.2.1,a.2.2.2.2.2,fs,s')) fun r=>r= .inl ((),())) a.2.2.2.2.1.length (fun c(s:ZE)=>(t,(a.2.2.2.2.1.length:Int),(c:Int),i,u,m,l,k,a.1,a.2.1,y1,a.2.2.2.1,a.2.2.2.2.2,fs,s)) (fun _ s=>s.length=a.2.2.2.2.1.length) ?step ?stop _ 0 a.2.2.2.2.1 (by omega) (by omega) rfl) (fun d ⟨s',h⟩=>?_) fun r h=>?_)
 case step=>
  intro rec c s hc hI kk
  dsimp only
  have hw:=fM c (by omega)
  rw[bZ (by omega),dH c,aA (show(c:Int)<(s.length:Int) by omega)]
  generalize hL:List.set _ _ _=L
  have hL':L.length=a.2.2.2.2.1.length:=by rw[←hL,cK];exact hI
  clear hL
  rw[aC]
  dsimp only
  refine W.bt ?_ fun v=>?_
  ·split<;>exact⟨_,rfl⟩
  ·split
   ·exact qC u ⟨_,rfl,rfl⟩ fun x=>(by rw[hw];exact kk _ (by rw[cK];exact hL'))
   ·rw[hw];exact kk _ hL'
 case stop=>
  intro rec s hI
  dsimp only
  rw[eG (by omega)]
  exact⟨_,rfl,s,rfl⟩
 ·subst h
  dsimp only
  have e2:Dx a.2.2.2.2.2.1=some a.2.2.2.2.2.1:=lV _ _ hb.2.1
  rw[e2,aD]
  have l2:a.2.2.2.2.2.1.length≤aF:=by have:=hb.2.1;omega
  refine aY.2 (W.ct (bU (L:=xl) rfl (CT (fun d=>∃z,d=(i,u,m,l,k,a.1,a.2.1,y1,a.2.2.2.1,a.2.2.2.2.2.2,fs,s',z)) fun r=>r= .inl ((),())) a.2.2.2.2.2.1.length (fun c(s:Ic)=>(t,(a.2.2.2.2.2.1.length:Int),(c:Int),i,u,m,l,k,a.1,a.2.1,y1,a.2.2.2.1,a.2.2.2.2.2.2,fs,s',s)) (fun _ s=>s.length=a.2.2.2.2.2.1.length∧∀d∈s,d.1.length*16≤aF) ?step ?stop _ 0 a.2.2.2.2.2.1 (by omega) (by omega) ⟨rfl,hb.2.2⟩) (fun d ⟨z,h⟩=>?_) fun r h=>?_)
  case step=>
   intro rec c s hc hI kk
   dsimp only
   have hcs:(c:Int)<(s.length:Int):=by have:=hI.1;omega
   have hn:(nth iD s (c:Int)).1.length*16≤aF:=hI.2 _ (bA (t:=iD) (cw c) hcs)
   have hw:=fM c (by omega)
   rw[bZ (by omega),dH c,aA hcs]
   generalize nth iD s (c:Int)=w at hn ⊢
   refine aY.2 (aY.2 (W.ct (bU (L:=xj) rfl (CT (fun d=>∃e,d=(t,(a.2.2.2.2.2.1.length:Int),(c:Int),i,u,m,l,k,a.1,a.2.1,y1,a.2.2.2.1,a.2.2.2.2.2.2,fs,s',s,Int.toNat (c:Int),w.1,w.2.1,w.2.2.2,e)) fun r=>r= .ret (.ret (.inl ((),())))) w.1.length (fun j(e:Zd)=>(t,(a.2.2.2.2.2.1.length:Int),(c:Int),w.1,(w.1.length:Int),(j:Int),i,u,m,l,k,a.1,a.2.1,y1,a.2.2.2.1,a.2.2.2.2.2.2,fs,s',s,Int.toNat (c:Int),w.1,w.2.1,w.2.2.2,e)) (fun j e=>e.length=j) ?step2 ?stop2 _ 0 [] (by omega) (by omega) rfl) (fun d ⟨e,h⟩=>?_) fun r h=>?_))
   case step2=>
    intro rec2 j e hj hI2 kk2
    dsimp only
    have hw2:=fM j (by omega)
    rw[bZ (by omega),dH j,aA (show(j:Int)<(w.1.length:Int) by omega)]
    refine qC t ⟨_,rfl,rfl⟩ fun x=>?_
    rw[aA (show(e.length+List.length [_])*8≤aF by rw[bF];omega)]
    rw[hw2]
    exact kk2 _ (by rw[cz,bF,hI2])
   case stop2=>
    intro rec2 e hI2
    dsimp only
    rw[eG (by omega)]
    exact⟨_,rfl,e,rfl⟩
   ·subst h
    dsimp only
    refine qC t ⟨_,rfl,rfl⟩ fun x=>⟨_,rfl,?_⟩
    rw[kE]
    dsimp only
    rw[hw]
    refine kk _ ⟨by rw[cK];exact hI.1,fun d hd=>?_⟩
    rcases uC hd with h|rfl
    ·exact hI.2 d h
    ·exact hn
   ·subst h;exact rfl
  case stop=>
   intro rec s hI
   dsimp only
   rw[eG (by omega)]
   exact⟨_,rfl,s,rfl⟩
  ·subst h
   exact⟨_,rfl,_,_,_,_,_,_,_,rfl⟩
  ·subst h;exact trivial
 ·subst h;exact trivial
def Sc(l:ZA):Zd:=l.map fun x=>x.2.2.1
theorem yU(l:ZA):(Sc l).length=l.length:=gm ..
theorem CM(l:ZA)(i:Nat)(v:Ia)(h:v.2.2.1=(l.getD i (Ty.aH bE)).2.2.1):Sc (l.set i v)=Sc l:=by
 unfold Sc
 rw[List.map_set]
 refine List.ext_getElem (by rw[cK]) fun j h1 h2=>?_
 rw[List.getElem_set]
 split
 ·rename_i e
  subst e
  rw[gm] at h2
  rw[h,List.getElem_map,uE,ri h2,Option.getD_some]
 ·rfl
def VS(n K:Nat)(s:Zd):Prop:=n≤s.length∧∀j(h:j<s.length),j<n→0≤s[j]∧s[j]<(K:Int)
theorem VS.at'{n K:Nat}{l:ZA}(h:VS n K (Sc l)){x:Int}(h0:0≤x)(h1:x<(n:Int)):x<(l.length:Int)∧0≤(nth bE l x).2.2.1∧(nth bE l x).2.2.1<(K:Int):=by
 have hn:=h.1
 rw[yU] at hn
 have e:x=(x.toNat:Int):=by omega
 have hx:x.toNat<l.length:=by omega
 have hs:=h.2 x.toNat (by rw[yU];exact hx) (by omega)
 rw[e,cH (t:=bE) hx]
 unfold Sc at hs
 rw[List.getElem_map] at hs
 exact⟨by omega,hs⟩
theorem jS{α:Type}{l:List α}{i:Nat}{v d:α}(h:i<l.length):(l.set i v).getD i d=v:=by
 rw[uE,ri (by rw[cK];exact h),Option.getD_some,List.getElem_set_self]
theorem VU(a0:Nat)(a1:ZA)(a2:Zw)(i u m:OM)(a6:Zl)(a7:Nat)(a8:Zf)(a9:Int)(a10:ZC×ZD×Unit)(fs:List OM)(n:Nat)(h0:a0<a1.length)(hv:VR n a2)(hs:VS n fs.length (Sc a1)):
 W (yk a0 a1 a2 i u m a6 a7 a8 a9 a10 fs) (ST (fun _=>True) fun r=>∃a1',r=(a1',a2,i,u,m,a6,a7,a8,a9,a10,fs)∧Sc a1'=Sc a1):=by
 unfold yk
 generalize hL:List.set (List.set a1 _ _) _ _=L
 have hL':Sc L=Sc a1:=by
  rw[←hL,CM _ _ _ (by rfl),CM _ _ _ (by rfl)]
 have hLl:a0<L.length:=by rw[←hL,cK,cK];exact h0
 clear hL
 rw[aC]
 dsimp only
 split
 ·refine aY.2 (tc (m:=some a2) hv ⟨_,rfl,trivial⟩ fun x hx0 hx1=>⟨_,rfl,?_⟩)
  rw[kE]
  generalize hM:List.set _ _ _=M
  have hg:(List.getD M a0 (Ty.aH bE)).2.2.2.1.2.2.1=x:=by rw[←hM,jS hLl]
  have hM':Sc M=Sc a1:=by rw[←hM,CM _ _ _ (by rfl)];exact hL'
  clear hM
  dsimp only
  rw[←hM'] at hs
  obtain⟨q1,q2,q3⟩:=hs.at' hx0 hx1
  rw[hg,aA hx0,aA q1,aA q2,aA q3]
  refine qC _ ⟨_,rfl,trivial⟩ fun y=>⟨_,rfl,_,rfl,?_⟩
  rw[CM _ _ _ (by rfl)];exact hM'
 ·exact⟨_,rfl,_,rfl,hL'⟩
theorem VV(a0:Nat)(a1:ZC)(a2:Zw)(i u m:OM)(a6:Zl)(a7:Nat)(a8:Zf)(a9:Int)(a10:ZD×Unit)(fs:List OM)(a12:ZA)(n:Nat)(h0:a0<a1.length)(hv:VR n a2)(hs:VS n fs.length (Sc a12)):
 W (yl a0 a1 a2 i u m a6 a7 a8 a9 a10 fs a12) (ST (fun _=>True) fun r=>∃a1',r=(a1',a2,i,u,m,a6,a7,a8,a9,a10,fs,a12)∧a1'.length=a1.length):=by
 unfold yl
 generalize hL:List.set (List.set a1 _ _) _ _=L
 have hL':L.length=a1.length:=by rw[←hL,cK,cK]
 clear hL
 rw[aC]
 dsimp only
 split
 ·refine aY.2 (tc (m:=some a2) hv ⟨_,rfl,trivial⟩ fun x hx0 hx1=>⟨_,rfl,?_⟩)
  rw[kE]
  generalize hM:List.set _ _ _=M
  have hg:(List.getD M a0 (Ty.aH cF)).2.1.2.2.1=x:=by rw[←hM,jS (by omega)]
  have hM':M.length=a1.length:=by rw[←hM,cK];exact hL'
  clear hM
  dsimp only
  obtain⟨q1,q2,q3⟩:=hs.at' hx0 hx1
  rw[hg,aA hx0,aA q1,aA q2,aA q3]
  refine qC _ ⟨_,rfl,trivial⟩ fun y=>⟨_,rfl,_,rfl,?_⟩
  rw[cK];exact hM'
 ·exact⟨_,rfl,_,rfl,hL'⟩
theorem VW(a0:Nat)(a1:ZC)(a2:Zw)(i u m:OM)(a6:Zl)(a7:Nat)(a8:Zf)(a9:Int)(a10:ZD×Unit)(fs:List OM)(a12:ZA)(n:Nat)(h0:a0<a1.length)(hv:VR n a2)(hs:VS n fs.length (Sc a12)):
 W (yA a0 a1 a2 i u m a6 a7 a8 a9 a10 fs a12) (ST (fun _=>True) fun r=>∃a1',r=(a1',a2,i,u,m,a6,a7,a8,a9,a10,fs,a12)∧a1'.length=a1.length):=by
 unfold yA
 generalize hL:List.set (List.set a1 _ _) _ _=L
 have hL':L.length=a1.length:=by rw[←hL,cK,cK]
 clear hL
 rw[aC]
 dsimp only
 split
 ·refine aY.2 (tc (m:=some a2) hv ⟨_,rfl,trivial⟩ fun x hx0 hx1=>⟨_,rfl,?_⟩)
  rw[kE]
  generalize hM:List.set _ _ _=M
  have hg:(List.getD M a0 (Ty.aH cF)).2.2.1.2.2.1=x:=by rw[←hM,jS (by omega)]
  have hM':M.length=a1.length:=by rw[←hM,cK];exact hL'
  clear hM
  dsimp only
  obtain⟨q1,q2,q3⟩:=hs.at' hx0 hx1
  rw[hg,aA hx0,aA q1,aA q2,aA q3]
  refine qC _ ⟨_,rfl,trivial⟩ fun y=>⟨_,rfl,_,rfl,?_⟩
  rw[cK];exact hM'
 ·exact⟨_,rfl,_,rfl,hL'⟩
theorem VX(a0:Nat)(a1:ZD)(a2:Zw)(i u m:OM)(a6:Zl)(a7:Nat)(a8:Zf)(a9:Int)(a10:Unit)(fs:List OM)(a12:ZA)(a13:ZC)(n:Nat)(h0:a0<a1.length)(hv:VR n a2)(hs:VS n fs.length (Sc a12)):
 W (yB a0 a1 a2 i u m a6 a7 a8 a9 a10 fs a12 a13) (ST (fun _=>True) fun r=>∃a1',r=(a1',a2,i,u,m,a6,a7,a8,a9,a10,fs,a12,a13)∧a1'.length=a1.length):=by
 unfold yB
 generalize hL:List.set (List.set a1 _ _) _ _=L
 have hL':L.length=a1.length:=by rw[←hL,cK,cK]
 clear hL
 rw[aC]
 dsimp only
 split
 ·refine aY.2 (tc (m:=some a2) hv ⟨_,rfl,trivial⟩ fun x hx0 hx1=>⟨_,rfl,?_⟩)
  rw[kE]
  generalize hM:List.set _ _ _=M
  have hg:(List.getD M a0 (Ty.aH dE)).2.2.1.2.2.1=x:=by rw[←hM,jS (by omega)]
  have hM':M.length=a1.length:=by rw[←hM,cK];exact hL'
  clear hM
  dsimp only
  obtain⟨q1,q2,q3⟩:=hs.at' hx0 hx1
  rw[hg,aA hx0,aA q1,aA q2,aA q3]
  refine qC _ ⟨_,rfl,trivial⟩ fun y=>⟨_,rfl,_,rfl,?_⟩
  rw[cK];exact hM'
 ·exact⟨_,rfl,_,rfl,hL'⟩
def MK(x:eQ):Prop:=x.2.2.1.length*96≤aF∧x.2.2.2.1.length*120≤aF∧x.2.2.2.2.1.length*80≤aF
theorem VS.agw{n K:Nat}{s:Zd}(h:VS n K s)(y:Int):VS n K (s.set n y):=by
 refine⟨by rw[cK];exact h.1,fun j hj hn=>?_⟩
 rw[cK] at hj
 rw[List.getElem_set_ne (by omega)]
 exact h.2 j hj hn
theorem VS.push{n K:Nat}{s:Zd}(h:VS n K s)(hn:n<s.length){y:Int}(h0:0≤y)(h1:y<(K:Int)):VS (n+1) K (s.set n y):=by
 refine⟨by rw[cK];exact hn,fun j hj hjn=>?_⟩
 rw[cK] at hj
 by_cases e:j=n
 ·subst e
  rw[List.getElem_set_self]
  exact⟨h0,h1⟩
 ·rw[List.getElem_set_ne (by omega)]
  exact h.2 j hj (by omega)
theorem VR.push{n:Nat}{M:Zw}(h:VR n M)(k:Zf):VR (n+1) (bJ .str k (n:Int) M):=fun p hp=>by
 rcases dB (kt:=.str) hp with rfl|hp
 ·exact⟨cw n,by show(n:Int)<_;omega⟩
 ·have:=h p hp
  exact⟨this.1,by omega⟩
theorem Rq(l:ZA)(i:Nat)(v:Ia):Sc (l.set i v)=(Sc l).set i v.2.2.1:=List.map_set ..
theorem ML(i u m:OM)(l:Zl)(k:Nat)(a:eQ)(fs:List OM)(hb:MK a)(hm:VR fs.length (bC m)):W (yC i u m l k a fs) (ST (fun _=>True) fun r=>∃x1 x2 x3 x4 x5 x6,r=(i,u,m,l,k,x1,x2,x3,fs,x4,x5,x6)):=by
 have hB:=hB
 unfold yC
 refine tc hm ⟨_,rfl,trivial⟩ fun y1 y0 yK=>?_
 have e1:Dy a.2.2.1=some a.2.2.1:=lV _ _ hb.1
 rw[e1,aD]
 have l1:a.2.2.1.length≤aF:=by have:=hb.1;omega
 have l2:a.2.2.2.1.length≤aF:=by have:=hb.2.1;omega
 have l3:a.2.2.2.2.1.length≤aF:=by have:=hb.2.2;omega
 refine aY.2 (W.ct (bU (L:=AN) rfl (CT (fun d=>∃s V,d=(i,u,m,l,k,a.1,y1,a.2.2.2,fs,s,V)∧s.length=a.2.2.1.length∧VR s.length V∧VS s.length fs.length (Sc s)) fun r=>r= .inl ((),())) a.2.2.1.length (fun c(s:ZA×Zw)=>((a.2.2.1.length:Int),(c:Int),i,u,m,l,k,a.1,y1,a.2.2.2,fs,s.1,s.2)) (fun c s=>s.1.length=a.2.2.1.length∧s.2.length≤c∧VR c s.2∧VS c fs.length (Sc s.1)) ?step ?stop _ 0 (a.2.2.1,[]) (by omega) (by omega) ⟨rfl,cT _,fun p hp=>(by cases hp),cV _,fun j hj hj0=>absurd hj0 (Nat.not_lt_zero _)⟩) (fun d ⟨s,V,h,hsl,hVR,hVS⟩=>?_) fun r h=>?_)
 case step=>
  rintro rec c ⟨s,V⟩ hc ⟨hsl,hVl,hVR,hVS⟩ kk
  dsimp only at hsl hVl hVR hVS ⊢
  have hw:=fM c (by omega)
  rw[bZ (by omega),dH c,aA (show(c:Int)<(s.length:Int) by omega)]
  refine aY.2 (tc hm ⟨_,rfl,rfl⟩ fun x x0 xK=>⟨_,rfl,?_⟩)
  rw[kE]
  generalize hL:List.set _ _ _=L
  have hS:Sc L=(Sc s).set c x:=by rw[←hL,Rq,dT]
  have hLl:L.length=a.2.2.1.length:=by rw[←hL,cK];exact hsl
  clear hL
  dsimp only
  refine qA.2 ((VU (Int.toNat (c:Int)) L V i u m l k a.1 y1 a.2.2.2 fs c (by rw[dT];omega) hVR (by rw[hS];exact hVS.agw x)).st (fun _ _=>⟨_,rfl,rfl⟩) fun r ⟨L',hr,hL'⟩=>?_)
  subst hr
  dsimp only
  rw[aA (show V.length+1≤aF by omega)]
  rw[hw]
  refine kk (L',bJ .str (List.getD L' (Int.toNat (c:Int)) (Ty.aH bE)).1 (c:Int) V) ⟨?_,cS (dp (kt:=.str)) (by omega),VR.push (n:=c) hVR _,?_⟩
  ·have:=congrArg List.length hL'
   rw[yU,yU] at this
   exact this.trans hLl
  ·show VS (c+1) fs.length (Sc L')
   rw[hL',hS]
   exact hVS.push (by rw[yU];omega) x0 xK
 case stop=>
  rintro rec ⟨s,V⟩ ⟨hsl,hVl,hVR,hVS⟩
  dsimp only at hsl hVl hVR hVS ⊢
  rw[eG (by omega)]
  exact⟨_,rfl,s,V,rfl,hsl,hsl▸hVR,hsl▸hVS⟩
 ·subst h
  dsimp only
  have e2:Dz a.2.2.2.1=some a.2.2.2.1:=lV _ _ hb.2.1
  rw[e2,aD]
  refine aY.2 (W.ct (bU (L:=xy) rfl (CT (fun d=>∃w,d=(i,u,m,l,k,a.1,y1,a.2.2.2.2,fs,s,V,w)) fun r=>r= .inl ((),())) a.2.2.2.1.length (fun c(w:ZC)=>((a.2.2.2.1.length:Int),(c:Int),i,u,m,l,k,a.1,y1,a.2.2.2.2,fs,s,V,w)) (fun _ w=>w.length=a.2.2.2.1.length) ?step ?stop _ 0 a.2.2.2.1 (by omega) (by omega) rfl) (fun d ⟨w,h⟩=>?_) fun r h=>?_)
  case step=>
   intro rec c w hc hI kk
   dsimp only
   have hw:=fM c (by omega)
   rw[bZ (by omega),dH c,aA (show(c:Int)<(w.length:Int) by omega)]
   refine qA.2 ((VV (Int.toNat (c:Int)) w V i u m l k a.1 y1 a.2.2.2.2 fs s s.length (by rw[dT];omega) hVR hVS).st (fun _ _=>⟨_,rfl,rfl⟩) fun r ⟨w',hr,hw'⟩=>?_)
   subst hr
   dsimp only
   rw[dH c,aA (show(c:Int)<(w'.length:Int) by omega)]
   refine qA.2 ((VW (Int.toNat (c:Int)) w' V i u m l k a.1 y1 a.2.2.2.2 fs s s.length (by rw[dT];omega) hVR hVS).st (fun _ _=>⟨_,rfl,rfl⟩) fun r ⟨w2,hr,hw2⟩=>?_)
   subst hr
   rw[hw]
   exact kk w2 (hw2.trans (hw'.trans hI))
  case stop=>
   intro rec w hI
   dsimp only
   rw[eG (by omega)]
   exact⟨_,rfl,w,rfl⟩
  ·subst h
   dsimp only
   have e3:Ek a.2.2.2.2.1=some a.2.2.2.2.1:=lV _ _ hb.2.2
   rw[e3,aD]
   refine aY.2 (W.ct (bU (L:=xz) rfl (CT (fun d=>∃z,d=(i,u,m,l,k,a.1,y1,(),fs,s,w,z)) fun r=>r= .inl ((),())) a.2.2.2.2.1.length (fun c(z:ZD)=>((a.2.2.2.2.1.length:Int),(c:Int),i,u,m,l,k,a.1,y1,a.2.2.2.2.2,fs,s,V,w,z)) (fun _ z=>z.length=a.2.2.2.2.1.length) ?step ?stop _ 0 a.2.2.2.2.1 (by omega) (by omega) rfl) (fun d ⟨z,h⟩=>?_) fun r h=>?_)
   case step=>
    intro rec c z hc hI kk
    dsimp only
    have hz:(c:Int)<(z.length:Int):=by omega
    have hw:=fM c (by omega)
    rw[bZ (by omega),aA y0,aA yK,dH c,aA hz]
    refine qC _ ⟨_,rfl,rfl⟩ fun x=>?_
    rw[dH c,aA hz]
    generalize hZ:List.set z _ _=Z
    have hZl:Z.length=a.2.2.2.2.1.length:=by rw[←hZ,cK];exact hI
    clear hZ
    rw[dH c,aA (show(c:Int)<(Z.length:Int) by omega)]
    refine qA.2 ((VX (Int.toNat (c:Int)) Z V i u m l k a.1 y1 a.2.2.2.2.2 fs s w s.length (by rw[dT];omega) hVR hVS).st (fun _ _=>⟨_,rfl,rfl⟩) fun r ⟨w2,hr,hw2⟩=>?_)
    subst hr
    rw[hw]
    exact kk w2 (hw2.trans hZl)
   case stop=>
    intro rec z hI
    dsimp only
    rw[eG (by omega)]
    exact⟨_,rfl,z,rfl⟩
   ·subst h
    exact⟨_,rfl,_,_,_,_,_,_,rfl⟩
   ·subst h;exact trivial
  ·subst h;exact trivial
 ·subst h;exact trivial
theorem EG(i u m:OM)(l:ZB)(k:Nat)(a:wz)(fs:List OM)(hb:a.2.2.2.2.1.length*56≤aF)(hm:VR fs.length (bC m)):W (yD i u m l k a fs) (ST (fun _=>True) fun r=>∃x1 x2 x3 x4 x5 x6,r=(i,u,m,l,k,x1,x2,x3,x4,x5,fs,x6)):=by
 have hB:=hB
 unfold yD
 refine tc hm ⟨_,rfl,trivial⟩ fun y1 y0 yK=>tc hm ⟨_,rfl,trivial⟩ fun y2 z0 zK=>?_
 have e1:El a.2.2.2.2.1=some a.2.2.2.2.1:=lV _ _ hb
 rw[e1,aD]
 refine aY.2 (W.ct (bU (L:=AO) rfl (CT (fun d=>∃s,d=(i,u,m,l,k,a.1,a.2.1,y1,y2,a.2.2.2.2.2,fs,s)) fun r=>r= .inl ((),())) a.2.2.2.2.1.length (fun c(s:Zv)=>((a.2.2.2.2.1.length:Int),(c:Int),i,u,m,l,k,a.1,a.2.1,y1,y2,a.2.2.2.2.2,fs,s)) (fun _ s=>s.length=a.2.2.2.2.1.length) ?step ?stop _ 0 a.2.2.2.2.1 (by omega) (by omega) rfl) (fun d ⟨w,h⟩=>?_) fun r h=>?_)
 case step=>
  intro rec c s hc hI kk
  dsimp only
  have hw:=fM c (by omega)
  rw[bZ (by omega),dH c,aA (show(c:Int)<(s.length:Int) by omega),aA y0,aA yK]
  refine qC _ ?_ fun x=>?_
  ·rw[aA z0,aA zK];exact⟨_,rfl,rfl⟩
  ·rw[aA z0,aA zK]
   refine qC _ ⟨_,rfl,rfl⟩ fun y=>?_
   rw[hw]
   exact kk _ (by rw[cK,cK];exact hI)
 case stop=>
  intro rec s hI
  dsimp only
  rw[eG (by omega)]
  exact⟨_,rfl,s,rfl⟩
 ·subst h
  exact⟨_,rfl,_,_,_,_,_,_,rfl⟩
 ·subst h;exact trivial
theorem EH(i u m:OM)(l:Zy)(k:Nat)(a:sY)(fs:List OM)(hb:a.2.1.length*48≤aF)(hm:VR fs.length (bC m)):W (yE i u m l k a fs) (ST (fun _=>True) fun r=>∃x1 x2 x3,r=(i,u,m,l,k,x1,x2,fs,x3)):=by
 have hB:=hB
 unfold yE
 have e1:Em a.2.1=some a.2.1:=lV _ _ hb
 rw[e1,aD]
 refine aY.2 (W.ct (bU (L:=AP) rfl (CT (fun d=>∃s,d=(i,u,m,l,k,a.1,a.2.2,fs,s)) fun r=>r= .inl ((),())) a.2.1.length (fun c(s:List mZ)=>((a.2.1.length:Int),(c:Int),i,u,m,l,k,a.1,a.2.2,fs,s)) (fun _ s=>s.length=a.2.1.length) ?step ?stop _ 0 a.2.1 (by omega) (by omega) rfl) (fun d ⟨w,h⟩=>?_) fun r h=>?_)
 case step=>
  intro rec c s hc hI kk
  dsimp only
  have hw:=fM c (by omega)
  rw[bZ (by omega),dH c,aA (show(c:Int)<(s.length:Int) by omega)]
  refine aY.2 (tc hm ⟨_,rfl,rfl⟩ fun x x0 xK=>⟨_,rfl,?_⟩)
  rw[kE]
  generalize hM:List.set _ _ _=M
  have hg:(List.getD M (Int.toNat (c:Int)) (Ty.aH iE)).2.2.1=x:=by rw[←hM,jS (by rw[dT];omega)]
  have hM':M.length=a.2.1.length:=by rw[←hM,cK];exact hI
  clear hM
  dsimp only
  rw[hg,aA x0,aA xK]
  refine qC _ ⟨_,rfl,rfl⟩ fun y=>?_
  rw[hw]
  exact kk _ (by rw[cK];exact hM')
 case stop=>
  intro rec s hI
  dsimp only
  rw[eG (by omega)]
  exact⟨_,rfl,s,rfl⟩
 ·subst h
  exact⟨_,rfl,_,_,_,rfl⟩
 ·subst h;exact trivial
structure BS(s:bD):Prop where
 j9:s.1.length*16≤aF
 kF:s.2.1.length*56≤aF
 dh:s.2.2.1.length*96≤aF
 rules:s.2.2.2.1.length*96≤aF
 fQ:s.2.2.2.2.1.length*72≤aF
 dV:s.2.2.2.2.2.1.length*48≤aF
 CN:∀x∈s.2.2.1,VQ x
 rl:∀x∈s.2.2.2.1,MK x
 cv:∀x∈s.2.2.2.2.1,x.2.2.2.2.1.length*56≤aF
 pu:∀x∈s.2.2.2.2.2.1,x.2.1.length*48≤aF
def mS{α:Type}(P:α→Prop)(c:Nat)(l:List α):Prop:=∀j(h:j<l.length),c≤j→P l[j]
theorem mS.of{α:Type}{P:α→Prop}{l:List α}(h:∀x∈l,P x):mS P 0 l:=fun _ hj _=>h _ (lq hj)
theorem mS.next{α:Type}{P:α→Prop}{c:Nat}{l:List α}(h:mS P c l)(v:α):mS P (c+1) (l.set (Int.toNat (c:Int)) v):=fun j hj hc=>by
 have hj':j<l.length:=by rw[cK] at hj;exact hj
 rw[List.getElem_set_ne (by rw[dT];omega)]
 exact h j hj' (by omega)
theorem mS.here{t:Ty}{P:t.den→Prop}{c:Nat}{l:List t.den}(h:mS P c l)(hc:c<l.length):P (nth t l (c:Int)):=by
 rw[cH (t:=t) hc]
 exact h c hc (cT _)
theorem EI(s:bD)(hs:SS s)(hb:BS s):W (f69 s) fun _=>True:=by
 have hB:=hB
 obtain⟨tw,i,u,m,fs,e,hi,hu,hm,hl,hf⟩:=Lv s hs hb.dh
 unfold f69
 rw[e,aD]
 dsimp only
 split
 ·exact⟨_,rfl,trivial⟩
 ·have e1:Dp s.1=some s.1:=lV _ _ hb.j9
  have e2:Dq s.2.1=some s.2.1:=lV _ _ hb.kF
  have e3:Dr s.2.2.1=some s.2.2.1:=lV _ _ hb.dh
  have e4:Ds s.2.2.2.1=some s.2.2.2.1:=lV _ _ hb.rules
  have e5:Dt s.2.2.2.2.1=some s.2.2.2.2.1:=lV _ _ hb.fQ
  have e6:Du s.2.2.2.2.2.1=some s.2.2.2.2.2.1:=lV _ _ hb.dV
  rw[e1,aD,e2,aD,e3,aD,e4,aD,e5,aD,e6,aD]
  have k3:=hs.dh
  have k4:=hs.rules
  have k5:=hs.fQ
  have k6:=hs.dV
  have p3:=mS.of hb.CN
  have p4:=mS.of hb.rl
  have p5:=mS.of hb.cv
  have p6:=mS.of hb.pu
  have qu:=Lw i u m s.2.1 fs hs.kF hu
  rw[←hl] at hm
  generalize s.1=v1 at*
  generalize s.2.1=v2 at*
  generalize s.2.2.1=v3 at*
  generalize s.2.2.2.1=v4 at*
  generalize s.2.2.2.2.1=v5 at*
  generalize s.2.2.2.2.2.1=v6 at*
  refine qA.2 (qu.st (fun _ _=>⟨_,rfl,trivial⟩) fun r ⟨us,hr⟩=>?_)
  subst hr
  dsimp only
  refine aY.2 (W.ct (bU (L:=Pm) rfl (CT (fun d=>∃p,d=((0:Int),i,u,m,v1,us,p,v4,v5,v6,fs)) fun _=>True) v3.length (fun c(p:Zn)=>((v3.length:Int),(c:Int),(0:Int),i,u,m,v1,us,p,v4,v5,v6,fs)) (fun c p=>p.length=v3.length∧mS VQ c p) ?step ?stop _ 0 v3 (by omega) (by omega) ⟨rfl,p3⟩) (fun d ⟨w3,h⟩=>?_) fun _ _=>trivial)
  case step=>
   rintro rec c p hc ⟨hp,hT⟩ kk
   dsimp only
   have hcp:c<p.length:=by omega
   have hw:=fM c (by omega)
   rw[bZ (by omega),dH c,aA (show(c:Int)<(p.length:Int) by omega),dH c,aA rfl,dH c,aA (show(c:Int)<(fs.length:Int) by omega)]
   refine qA.2 ((HK _ i u m p _ _ fs (hT.here (t:=aR) hcp)).st (fun _ _=>⟨_,rfl,trivial⟩) fun r ⟨x1,x2,x3,x4,x5,x6,x7,hr⟩=>?_)
   subst hr
   rw[hw]
   exact kk _ ⟨by rw[cK];exact hp,hT.next _⟩
  case stop=>
   rintro rec p ⟨hp,hT⟩
   dsimp only
   rw[eG (by omega)]
   exact⟨_,rfl,p,rfl⟩
  subst h
  dsimp only
  refine aY.2 (W.ct (bU (L:=Lc) rfl (CT (fun d=>∃p,d=((0:Int),i,u,m,v1,us,w3,p,v5,v6,fs)) fun _=>True) v4.length (fun c(p:Zl)=>((v4.length:Int),(c:Int),(0:Int),i,u,m,v1,us,w3,p,v5,v6,fs)) (fun c p=>p.length=v4.length∧mS MK c p) ?step ?stop _ 0 v4 (by omega) (by omega) ⟨rfl,p4⟩) (fun d ⟨w4,h⟩=>?_) fun _ _=>trivial)
  case step=>
   rintro rec c p hc ⟨hp,hT⟩ kk
   dsimp only
   have hcp:c<p.length:=by omega
   have hw:=fM c (by omega)
   rw[bZ (by omega),dH c,aA (show(c:Int)<(p.length:Int) by omega),dH c,aA rfl]
   refine qA.2 ((ML i u m p _ _ fs (hT.here (t:=bW) hcp) hm).st (fun _ _=>⟨_,rfl,trivial⟩) fun r ⟨x1,x2,x3,x4,x5,x6,hr⟩=>?_)
   subst hr
   rw[hw]
   exact kk _ ⟨by rw[cK];exact hp,hT.next _⟩
  case stop=>
   rintro rec p ⟨hp,hT⟩
   dsimp only
   rw[eG (by omega)]
   exact⟨_,rfl,p,rfl⟩
  subst h
  dsimp only
  refine aY.2 (W.ct (bU (L:=Ld) rfl (CT (fun d=>∃p,d=((0:Int),i,u,m,v1,us,w3,w4,p,v6,fs)) fun _=>True) v5.length (fun c(p:ZB)=>((v5.length:Int),(c:Int),(0:Int),i,u,m,v1,us,w3,w4,p,v6,fs)) (fun c p=>p.length=v5.length∧mS (fun x:wz=>x.2.2.2.2.1.length*56≤aF) c p) ?step ?stop _ 0 v5 (by omega) (by omega) ⟨rfl,p5⟩) (fun d ⟨w5,h⟩=>?_) fun _ _=>trivial)
  case step=>
   rintro rec c p hc ⟨hp,hT⟩ kk
   dsimp only
   have hcp:c<p.length:=by omega
   have hw:=fM c (by omega)
   rw[bZ (by omega),dH c,aA (show(c:Int)<(p.length:Int) by omega),dH c,aA rfl]
   refine qA.2 ((EG i u m p _ _ fs (hT.here (t:=iN) hcp) hm).st (fun _ _=>⟨_,rfl,trivial⟩) fun r ⟨x1,x2,x3,x4,x5,x6,hr⟩=>?_)
   subst hr
   rw[hw]
   exact kk _ ⟨by rw[cK];exact hp,hT.next _⟩
  case stop=>
   rintro rec p ⟨hp,hT⟩
   dsimp only
   rw[eG (by omega)]
   exact⟨_,rfl,p,rfl⟩
  subst h
  dsimp only
  refine aY.2 (W.ct (bU (L:=Le) rfl (CT (fun _=>True) fun _=>True) v6.length (fun c(p:Zy)=>((v6.length:Int),(c:Int),(0:Int),i,u,m,v1,us,w3,w4,w5,p,fs)) (fun c p=>p.length=v6.length∧mS (fun x:sY=>x.2.1.length*48≤aF) c p) ?step ?stop _ 0 v6 (by omega) (by omega) ⟨rfl,p6⟩) (fun d h=>?_) fun _ _=>trivial)
  case step=>
   rintro rec c p hc ⟨hp,hT⟩ kk
   dsimp only
   have hcp:c<p.length:=by omega
   have hw:=fM c (by omega)
   rw[bZ (by omega),dH c,aA (show(c:Int)<(p.length:Int) by omega),dH c,aA rfl]
   refine qA.2 ((EH i u m p _ _ fs (hT.here (t:=fj) hcp) hm).st (fun _ _=>⟨_,rfl,trivial⟩) fun r ⟨x1,x2,x3,hr⟩=>?_)
   subst hr
   rw[hw]
   exact kk _ ⟨by rw[cK];exact hp,hT.next _⟩
  case stop=>
   rintro rec p ⟨hp,hT⟩
   dsimp only
   rw[eG (by omega)]
   exact⟨_,rfl,trivial⟩
  exact⟨_,rfl,trivial⟩
theorem CO(s:bD)(hs:SS s)(hb:BS s):∃r,f54 s=some r:=by
 obtain⟨⟨a,b⟩,e,_⟩:=EI s hs hb
 unfold f54
 rw[e,aD]
 dsimp only
 obtain⟨q,hq⟩:=EE a s hs
 rw[hq,aD]
 repeat' (first|exact⟨_,rfl⟩|split)
structure SA(s:bD):Prop where
 ss:SS s
 bs:BS s
 sw:SW s
structure CG(s:bD)(l:Zd):Prop where
 tg:TG s
 rk:vW s l
 sw:SW s
theorem MM(s:bD)(hs:SA s):∃r,f30 s=some r∧(r.1=0→r.2.1=s∧CG s r.2.2.1):=by
 have no:∀(x:Int)(y:GA),(!decide (x=(0:Int)))=true→∃r,some (x,y)=some r∧(r.1=0→r.2.1=s∧CG s r.2.2.1):=fun x y hx=>⟨_,rfl,fun h=>by
  have:x=0:=h
  subst this
  cases hx⟩
 unfold f30
 obtain⟨r1,e1⟩:=CO s hs.ss hs.bs
 obtain⟨r2,e2,_⟩:=Bh s hs.sw
 obtain⟨r3,e3⟩:=yT s hs.ss
 obtain⟨r4,e4,m4⟩:=HF s hs.sw
 obtain⟨r5,e5⟩:=HH s hs.sw.nb hs.ss
 rw[e1,aD]
 by_cases h1:(!decide (r1=(0:Int)))=true
 ·rw[aA h1];exact no _ _ h1
 ·rw[aB h1,e2,aD]
  by_cases h2:(!decide (r2=(0:Int)))=true
  ·rw[aA h2];exact no _ _ h2
  ·rw[aB h2,e3,aD]
   by_cases h3:(!decide (r3=(0:Int)))=true
   ·rw[aA h3];exact no _ _ h3
   ·rw[aB h3,e4,aD]
    by_cases h4:(!decide (r4=(0:Int)))=true
    ·rw[aA h4];exact no _ _ h4
    ·rw[aB h4,e5,aD]
     by_cases h5:(!decide (r5=(0:Int)))=true
     ·rw[aA h5];exact no _ _ h5
     ·rw[aB h5,aC]
      obtain⟨hT,l,ho,hR⟩:=m4 (by simpa using h4)
      rw[ho,aD]
      exact⟨_,rfl,fun _=>⟨rfl,hT,hR,hs.sw⟩⟩
theorem uB(g:GA)(hs:SA g.1):∃r,vG g=some r∧(r=0→∃l,CG g.1 l):=by
 obtain⟨⟨r,b⟩,e,hm⟩:=MM g.1 hs
 unfold vG
 rw[e,aD]
 dsimp only
 by_cases h:r=0
 ·subst h
  obtain⟨hb,hc⟩:=hm rfl
  have yes:∀y:ZW,(∃z,y=some z)→∃r,y=some r∧(r=0→∃l,CG g.1 l):=fun y ⟨z,hz⟩=>⟨z,hz,fun _=>⟨_,hc⟩⟩
  apply yes
  obtain⟨q,hq⟩:=EE b.1 g.1 hs.ss
  obtain⟨q2,hq2⟩:∃r,f61 b.2.1 g.2.1=some r:=PB (.int .i64) (fun a b=>decide (a=b)) _ _ fun _=>cS hc.rk.len (by have:=hc.tg.many;have:=hB;omega)
  unfold f31
  rw[hq]
  cases q<;>cases q2<;>simp only[aD,hq2]<;>simp
 ·refine⟨160,?_,fun h'=>(by cases h')⟩
  rw[aA (by simp[h])]
  rfl
end Go.Proofs.YtkhfnbfpgcjllaaGreatDoor
