/- Checking tables answers, and what its OK says. No condition. -/
import Derived.Test.YtgdcjlldafmomaaGreatUO
import Derived.Test.YtgdcjlldafmomaaGreatA5
import Derived.Test.YtgdcjlldafmomaaGreatF5
noncomputable section
namespace Go.Proofs.YtgdcjlldafmomaaGreat
open Go.Ax
theorem hB:aC=140737488355328:=rfl
theorem vp{l:Zf}{i j:Nat}(hi:i<l.length)(hj:j<l.length):jg (i:Int) (j:Int) l=some (decide (l[i]<l[j]),l):=by
 have h1:(i:Int)<(l.length:Int):=by omega
 have h2:(j:Int)<(l.length:Int):=by omega
 simp only[jg,Int.natCast_nonneg,h1,h2,if_true,db (t:=.int .i64) hi,db (t:=.int .i64) hj]
theorem swap_eq{l:Zf}{i j:Nat}(hi:i<l.length)(hj:j<l.length):∃l',iy (i:Int) (j:Int) l=some l'∧l'.Perm l:=by
 have h1:(i:Int)<(l.length:Int):=by omega
 have h2:(j:Int)<(l.length:Int):=by omega
 refine⟨(l.set i l[j]).set j l[i],?_,List.set_set_perm hi hj⟩
 simp only[iy,Int.natCast_nonneg,h1,h2,List.length_set,if_true,db (t:=.int .i64) hi,db (t:=.int .i64) hj,Int.toNat_natCast]
theorem YY:∀(n c:Nat)(d:Zf),c<n→c<d.length→d.length≤aC→W (lA n ((c:Int),d)) (CT (fun d'=>d'.Perm d) fun _=>False):=by
 intro n
 induction n with
 |zero=>intro c d h;omega
 |
  succ n ih=>
  intro c d hn hc hb
  unfold lA at ih ⊢
  rw[aP]
  generalize aH _ n=rec at ih ⊢
  have hB:=hB
  dsimp only
  cases c with
  |
   zero=>
   rw[if_pos (by decide)]
   exact mY.2 (fU.2 (List.Perm.refl _))
  |
   succ c=>
   have e1:aV (((c+1:Nat):Int) -1)=(c:Int):=by rw[fT (by omega) (by omega)];omega
   have e2:aV (Int.tdiv (c:Int) 2)=((c / 2:Nat):Int):=by
    have:Int.tdiv (c:Int) 2=((c / 2:Nat):Int):=rfl
    rw[this,fT (by omega) (by omega)]
   rw[e1,e2,if_neg (by simp only[decide_eq_true_eq];omega),vp hc (by omega),Option.bind_some]
   dsimp only
   by_cases hl:d[c+1]<d[c / 2]
   ·rw[if_neg (by simp[hl])]
    obtain⟨l',e,p⟩:=swap_eq (l:=d) (i:=c / 2) (j:=c+1) (by omega) hc
    rw[e,Option.bind_some]
    exact(ih (c / 2) l' (by omega) (by rw[p.length_eq];omega) (by rw[p.length_eq];exact hb)).ct (fun _ h=>h.trans p) fun _ h=>h
   ·rw[if_pos (by simp[hl])]
    exact mY.2 (fU.2 (List.Perm.refl _))
theorem Bf{a:Int}{l:Zf}(h:(l.length+1)*8≤aC):∃q,mo a l=some q∧q.Perm (a::l):=by
 have hB:=hB
 have e1:uA a l=some (l++[a]):=if_pos h
 have e2:mn (l++[a])=some (((l++[a]).length:Int),l++[a]):=rfl
 have hl:(l++[a]).length=l.length+1:=by rw[List.length_append];rfl
 have e3:aV (((l++[a]).length:Int) -1)=(l.length:Int):=by rw[hl,fT (by omega) (by omega)];omega
 obtain⟨o,ho,hp⟩:=YY ff l.length (l++[a]) (xJ (by omega)) (by omega) (by omega)
 unfold mo
 rw[e1,Option.bind_some,e2,Option.bind_some]
 dsimp only
 rw[e3]
 unfold uz
 rw[ho]
 cases o with
 |brk d=>exact⟨d,rfl,(show d.Perm (l++[a]) from hp).trans (List.perm_append_singleton a l)⟩
 |ret r=>exact(show False from hp).elim
theorem MR:∀(m:Nat)(q:Int)(o p:Nat)(r:Zf),o -p<m→p≤o→o≤r.length→r.length≤aC→
 W (ji m (q,(o:Int),(p:Int),r)) (CT (fun u=>u.2.2.Perm r) fun _=>False):=by
 intro m
 induction m with
 |zero=>intro q o p r h;omega
 |
  succ m ih=>
  intro q o p r hm hpo hor hb
  unfold ji at ih ⊢
  rw[aP]
  generalize aH _ m=rec at ih ⊢
  have hB:=hB
  dsimp only
  have e0:aV ((2:Int)*(p:Int))=((2*p:Nat):Int):=by rw[fT (by omega) (by omega)];omega
  have e1:aV (((2*p:Nat):Int)+1)=((2*p+1:Nat):Int):=by rw[fT (by omega) (by omega)];omega
  rw[e0,e1]
  by_cases h1:o≤2*p+1
  ·rw[if_pos (show decide ((o:Int)≤((2*p+1:Nat):Int))=true by simp only[decide_eq_true_eq];omega),Option.bind_some,if_pos rfl]
   exact mY.2 (fU.2 (List.Perm.refl _))
  ·rw[if_neg (show¬decide ((o:Int)≤((2*p+1:Nat):Int))=true by simp only[decide_eq_true_eq];omega),Option.bind_some,if_neg (by simp only[decide_eq_true_eq];omega),aG]
   dsimp only
   have e2:aV (((2*p+1:Nat):Int)+1)=((2*p+2:Nat):Int):=by rw[fT (by omega) (by omega)];omega
   rw[e2]
   have key:∀j:Nat,p<j→j<o→W (Option.bind (jg (j:Int) (p:Int) r) fun⟨m',n⟩=>if(!m')=true then(some (.brk (q,(p:Int),n))) else(Option.bind (iy (p:Int) (j:Int) n) fun y9=>rec (q,(o:Int),(j:Int),y9))) (CT (fun u:Int×Int×Zf=>u.2.2.Perm r) fun _:Bool×Zf=>False):=by
    intro j hj1 hj2
    rw[vp (by omega) (by omega),Option.bind_some]
    dsimp only
    split
    ·exact mY.2 (fU.2 (List.Perm.refl _))
    ·obtain⟨l',e,pm⟩:=swap_eq (l:=r) (i:=p) (j:=j) (by omega) (by omega)
     rw[e,Option.bind_some]
     exact(ih q o j l' (by omega) (by omega) (by rw[pm.length_eq];omega) (by rw[pm.length_eq];exact hb)).ct (fun _ h=>h.trans pm) fun _ h=>h
   by_cases h2:2*p+2<o
   ·rw[if_pos (show decide (((2*p+2:Nat):Int)<(o:Int))=true by simp only[decide_eq_true_eq];omega),vp (by omega) (by omega),Option.bind_some]
    dsimp only
    split
    ·rw[aG];exact key _ (by omega) h2
    ·rw[aG];exact key _ (by omega) (by omega)
   ·rw[if_neg (show¬decide (((2*p+2:Nat):Int)<(o:Int))=true by simp only[decide_eq_true_eq];omega),aG]
    exact key _ (by omega) (by omega)
theorem Kj{l:Zf}(hne:l≠[])(hb:l.length≤aC):∃x q,mq l=some (x,q)∧(x::q).Perm l:=by
 have hB:=hB
 have hpos:0<l.length:=List.length_pos_iff.2 hne
 obtain⟨n,hn⟩:∃n,l.length=n+1:=⟨l.length -1,by omega⟩
 have e2:mn l=some ((l.length:Int),l):=rfl
 have e3:aV ((l.length:Int) -1)=(n:Int):=by rw[hn,fT (by omega) (by omega)];omega
 obtain⟨l',e4,p4⟩:=swap_eq (l:=l) (i:=0) (j:=n) (by omega) (by omega)
 have hl':l'.length=n+1:=by rw[p4.length_eq,hn]
 obtain⟨o,ho,hp⟩:=MR ff 0 n 0 l' (xJ (by omega)) (by omega) (by omega) (by omega)
 cases o with
 |ret r=>exact(show False from hp).elim
 |
  brk d=>
  obtain⟨d1,d2,c⟩:=d
  have pc:c.Perm l':=hp
  have hc:c.length=n+1:=by rw[pc.length_eq,hl']
  have e5:pd 0 (n:Int) l'=some (decide (d1<d2),c):=by
   unfold pd
   have ho':ji ff ((0:Int),(n:Int),(0:Int),l')=some (.brk (d1,d2,c)):=ho
   rw[ho',aG]
  have e6:pg c=some (c[n]'(by omega),c.take n):=by
   have h7:aV ((c.length:Int) -1)=(n:Int):=by rw[hc,fT (by omega) (by omega)];omega
   have h8:(n:Int)<(c.length:Int):=by omega
   have h9:(n:Int)≤(c.length:Int):=by omega
   simp only[pg,h7,Int.natCast_nonneg,h8,h9,if_true,db (t:=.int .i64) (show n<c.length by omega),Int.toNat_natCast,Nat.sub_zero]
  refine⟨c[n]'(by omega),c.take n,?_,?_⟩
  ·unfold mq
   rw[e2,Option.bind_some]
   dsimp only
   rw[e3]
   have e4':iy (0:Int) (n:Int) l=some l':=e4
   rw[e4',Option.bind_some,e5,Option.bind_some]
   dsimp only
   rw[e6,Option.bind_some]
  ·have h:c.take n++[c[n]'(by omega)]=c:=by
    have:=List.take_append_drop n c
    rw[List.drop_eq_getElem_cons (show n<c.length by omega),List.drop_of_length_le (by omega)] at this
    exact this
   have q:=List.perm_append_singleton (c[n]'(by omega)) (c.take n)
   rw[h] at q
   exact q.symm.trans (pc.trans p4)
theorem lj{α:Type}:∀{l:List α}{i:Nat}(h:i<l.length),(l[i]::l.eraseIdx i).Perm l
 |x::l,0,_=>List.Perm.refl _
 |
  x::l,i+1,h=>by
  have h':i<l.length:=by rw[List.length_cons] at h;omega
  exact(List.Perm.swap x l[i] _).trans ((lj h').cons x)
def nd(g:dm)(h:Int):Zn:=bT (bJ (.int .i64) (.map (.int .i64) .bool) h (bT g.2.1))
def ks(g:dm)(h:Int):Zf:=(nd g h).map (·.1)
def iB(e:ZT)(k:Zf)(f:Int):ZT:=e.mapIdx fun j row=>if(j:Int)∈k then row++[f] else row
theorem iX(e:ZT)(k:Zf)(f:Int):(iB e k f).length=e.length:=by unfold iB;rw[List.length_mapIdx]
theorem B1(e:ZT)(f:Int):iB e [] f=e:=by
 refine List.ext_getElem (iX e [] f) fun j h1 h2=>?_
 simp only[iB,List.getElem_mapIdx,List.not_mem_nil,if_false]
theorem xi{e:ZT}{k k':Zf}{f:Int}(h:∀x,x∈k↔x∈k'):iB e k f=iB e k' f:=by
 unfold iB
 congr 1
 funext j row
 simp only[h]
theorem B2{e:ZT}{k:Zf}{f:Int}{x:Nat}(hx:x<e.length)(hk:(x:Int)∉k):iB (e.set x (e.getD x []++[f])) k f=iB e ((x:Int)::k) f:=by
 refine List.ext_getElem (by rw[iX,iX,List.length_set]) fun j h1 h2=>?_
 have hj:j<e.length:=by rw[iX] at h2;exact h2
 simp only[iB,List.getElem_mapIdx,List.getElem_set,List.mem_cons]
 by_cases hxj:x=j
 ·subst hxj
  rw[if_neg hk,if_pos rfl,if_pos (Or.inl rfl),List.getD_eq_getElem?_getD,List.getElem?_eq_getElem hx,Option.getD_some]
 ·have hne:¬((j:Int)=(x:Int)):=by omega
  simp only[if_neg hxj,hne,false_or]
theorem MT(f b c:Int)(d:dm):∀(n:Nat)(a:Zn)(e:ZT),a.length<n→(a.map (·.1)).Nodup→(∀x∈a.map (·.1),0≤x∧x<(e.length:Int))→(∀x:Nat,(x:Int)∈a.map (·.1)→((e.getD x []).length+1)*8≤aC)→
 ux n (f,b,c,d,e,a)=some (.brk (b,c,d,iB e (a.map (·.1)) f)):=by
 intro n
 induction n with
 |zero=>intro a e h;omega
 |
  succ n ih=>
  intro a e hn hd hr hs
  unfold ux at ih ⊢
  rw[aP]
  generalize aH _ n=rec at ih ⊢
  dsimp only
  cases hA:a with
  |
   nil=>
   rw[if_pos (show List.isEmpty ([]:Zn)=true from rfl)]
   simp only[List.map_nil,B1]
  |
   cons y l=>
   rw[←hA,if_neg (by rw[hA];simp)]
   refine ES (by rw[hA];simp) fun i hi=>?_
   have p:=lj hi
   have pm:=p.map (·.1)
   have hd':((a[i]::a.eraseIdx i).map (·.1)).Nodup:=pm.nodup_iff.2 hd
   rw[List.map_cons,List.nodup_cons] at hd'
   have hmem:a[i].1∈a.map (·.1):=List.mem_map_of_mem (List.getElem_mem hi)
   obtain⟨h0,h1⟩:=hr _ hmem
   obtain⟨x,hx⟩:∃x:Nat,a[i].1=(x:Int):=⟨a[i].1.toNat,by omega⟩
   have hxl:x<e.length:=by omega
   rw[hx] at h0 h1 hd' hmem ⊢
   have hs1:=hs x hmem
   have hsz:(List.length (List.getD e x [])+List.length [f])*8≤aC:=hs1
   simp only[h0,h1,if_true,Int.toNat_natCast,if_pos hsz]
   rw[ih]
   ·rw[B2 hxl hd'.1]
    refine congrArg (fun z=>some (cz.brk (b,c,d,z))) (xi fun z=>?_)
    have:=(pm.mem_iff (a:=z))
    rw[List.map_cons,hx] at this
    exact this
   ·have:=p.length_eq
    rw[List.length_cons] at this
    omega
   ·exact hd'.2
   ·intro z hz
    rw[List.length_set]
    exact hr z (pm.mem_iff.1 (by rw[List.map_cons];exact List.mem_cons_of_mem _ hz))
   ·intro z hz
    have hne:x≠z:=fun h=>hd'.1 (h▸hz)
    rw[List.getD_eq_getElem?_getD,List.getElem?_set_ne hne,←List.getD_eq_getElem?_getD]
    exact hs z (pm.mem_iff.1 (by rw[List.map_cons];exact List.mem_cons_of_mem _ hz))
structure GG(g:dm)(m:Nat):Prop where
 many:g.1=(m:Int)
 small:m≤1000000
 nodup:∀h,(ks g h).Nodup
 range:∀h x,x∈ks g h→0≤x∧x<(m:Int)
def us(g:dm)(m e:Nat):ZT:=(List.range m).map fun j:Nat=>((List.range e).filter fun h:Nat=>decide ((j:Int)∈ks g (h:Int))).map fun h:Nat=>(h:Int)
theorem nI(g:dm)(m e:Nat):(us g m e).length=m:=by simp[us]
theorem HP(g:dm)(m e:Nat):iB (us g m e) (ks g (e:Int)) (e:Int)=us g m (e+1):=by
 refine List.ext_getElem (by rw[iX,nI,nI]) fun j h1 h2=>?_
 simp only[iB,us,List.getElem_mapIdx,List.getElem_map,List.getElem_range,List.range_succ,List.filter_append,List.map_append,List.filter_cons,List.filter_nil]
 by_cases h:(j:Int)∈ks g (e:Int)
 ·simp[h]
 ·simp[h]
theorem HQ(g:dm)(m:Nat):us g m 0=List.replicate m []:=by
 refine List.ext_getElem (by rw[nI,List.length_replicate]) fun j h1 h2=>?_
 simp[us]
theorem Kk{g:dm}{m e x:Nat}:((us g m e).getD x []).length≤e:=by
 rw[List.getD_eq_getElem?_getD]
 by_cases h:x<(us g m e).length
 ·rw[List.getElem?_eq_getElem h,Option.getD_some]
  simp only[us,List.getElem_map,List.length_map]
  exact Nat.le_trans (List.length_filter_le _ _) (by simp)
 ·rw[List.getElem?_eq_none (by omega)]
  simp
theorem MU{g:dm}{m:Nat}(hg:GG g m):∀(n e:Nat),m -e<n→e≤m→pb n ((m:Int),(e:Int),g,us g m e)=some (.brk (us g m m)):=by
 intro n
 have hB:=hB
 have hsm:=hg.small
 induction n with
 |zero=>intro e h;omega
 |
  succ n ih=>
  intro e hn he
  unfold pb at ih ⊢
  rw[aP]
  generalize aH _ n=rec at ih ⊢
  dsimp only
  by_cases h:e<m
  ·rw[if_pos (show decide ((e:Int)<(m:Int))=true by simp only[decide_eq_true_eq];omega)]
   have key:=MT (e:Int) (m:Int) (e:Int) g ((nd g (e:Int)).length+1) (nd g (e:Int)) (us g m e) (by omega) (hg.nodup _) (fun x hx=>by rw[nI];exact hg.range _ x hx) (fun x _=>by have:=Kk (g:=g) (m:=m) (e:=e) (x:=x);omega)
   unfold nd at key
   rw[key,aG]
   dsimp only
   rw[show aV ((e:Int)+1)=((e+1:Nat):Int) from aJ (by omega),show iB (us g m e) ((bT (bJ (.int .i64) (.map (.int .i64) .bool) (e:Int) (bT g.2.1))).map (·.1)) (e:Int)=us g m (e+1) from HP g m e]
   exact ih (e+1) (by omega) (by omega)
  ·have:e=m:=by omega
   subst this
   rw[if_neg (by simp only[decide_eq_true_eq];omega)]
theorem Ec{g:dm}{m:Nat}(hg:GG g m):f148 g=some (us g m m):=by
 have hB:=hB
 have hsm:=hg.small
 unfold f148
 rw[hg.many,if_pos (Int.natCast_nonneg m),if_pos (Int.le_refl _),if_pos (by omega),Int.toNat_natCast,←HQ g]
 have:=MU hg (m+1) 0 (by omega) (by omega)
 have h0:pb (m+1) ((m:Int),(0:Int),g,us g m 0)=some (.brk (us g m m)):=this
 rw[h0,aG]
theorem eO:∀(m:Nat)(l:Zf),l.Nodup→(∀x∈l,0≤x∧x<(m:Int))→l.length≤m:=by
 intro m
 induction m with
 |
  zero=>
  intro l _ h
  cases l with
  |nil=>exact Nat.le_refl _
  |cons x l=>have:=h x (List.mem_cons_self ..);omega
 |
  succ m ih=>
  intro l hd h
  by_cases hm:(m:Int)∈l
  ·have h1:=ih (l.erase (m:Int)) (hd.erase _) fun x hx=>by
    have:=(hd.mem_erase_iff).1 hx
    have:=h x this.2
    omega
   have h2:=List.length_erase_of_mem hm
   have h3:=List.length_pos_of_mem hm
   omega
  ·have:=ih l hd fun x hx=>by
    have h1:=h x hx
    have:x≠(m:Int):=fun e=>hm (e▸hx)
    omega
   omega
def zp(g:dm)(out:Zf)(h:Int):Nat:=((ks g h).filter fun x=>decide (x∉out)).length
theorem Bg(g:dm)(h:Int):zp g [] h=(ks g h).length:=by simp[zp]
theorem Kl{g:dm}{m:Nat}(hg:GG g m)(out:Zf)(h:Int):zp g out h≤m:=
 Nat.le_trans (List.length_filter_le _ _) (eO m _ (hg.nodup h) (hg.range h))
theorem zq:∀(l:Zf)(out:Zf)(x:Int),l.Nodup→x∉out→
 (l.filter fun z=>decide (z∉out)).length=(l.filter fun z=>decide (z∉out++[x])).length+(if x∈l then 1 else 0):=by
 intro l
 induction l with
 |nil=>intro out x _ _;rfl
 |
  cons y l ih=>
  intro out x hd hx
  rw[List.nodup_cons] at hd
  have:=ih out x hd.2 hx
  by_cases hyx:y=x
  ·subst hyx
   rw[if_neg hd.1] at this
   rw[List.filter_cons_of_pos (by simpa using hx),List.filter_cons_of_neg (by simp),if_pos (List.mem_cons_self ..),List.length_cons,this]
  ·have hmem:(x∈y::l)=(x∈l):=by simp[Ne.symm hyx]
   simp only[hmem]
   by_cases hyo:y∈out
   ·rw[List.filter_cons_of_neg (by simp[hyo]),List.filter_cons_of_neg (by simp[hyo])]
    exact this
   ·rw[List.filter_cons_of_pos (by simp[hyo]),List.filter_cons_of_pos (by simp[hyo,hyx]),List.length_cons,List.length_cons,this]
    omega
theorem Bh{g:dm}{m:Nat}(hg:GG g m){out:Zf}{x h:Int}(hx:x∉out):zp g out h=zp g (out++[x]) h+if x∈ks g h then 1 else 0:=
 zq _ _ _ (hg.nodup h) hx
abbrev Yc(y:YC):ZG:=fun d=>eV y d.1 d.2.1 d.2.2.1 d.2.2.2.1 d.2.2.2.2.1
theorem MV(y:YC)(x:Int)(acc:Zf)(h:(acc.length+1)*8≤aC):eV y x y 0 (y.gs 1) acc=some (true,y,0,y.gs 1,acc++[x]):=by
 unfold eV
 rw[dK]
 simp only[if_true,List.length_cons,List.length_nil,Nat.zero_add,if_pos h,Option.bind_some,Nat.beq]
structure L3(g:dm)(m a:Nat)(c e:Zf):Prop where
 len:c.length=m
 num:∀h<a,c[h]? =some ((ks g (h:Int)).length:Int)
 nod:e.Nodup
 mem:∀x,x∈e↔∃h:Nat,h<a∧x=(h:Int)∧(ks g (h:Int)).length=0
theorem MW{g:dm}{m:Nat}(hg:GG g m)(U:ZT):∀(n a:Nat)(c e:Zf),m -a<n→a≤m→L3 g m a c e→
 ∃c' e',L3 g m m c' e'∧∀(y:YC)(k:Zf),dD y.l (Yc y) n (y.l,g,U,(m:Int),(a:Int),y,0,y.gs 1,k,c,e)=some (.brk (y.l,U,y,0,y.gs 1,k,c',e')):=by
 intro n
 have hB:=hB
 have hsm:=hg.small
 induction n with
 |zero=>intro a c e h;omega
 |
  succ n ih=>
  intro a c e hn ha hL
  have hstep:∀y k,dD y.l (Yc y) (n+1) (y.l,g,U,(m:Int),(a:Int),y,0,y.gs 1,k,c,e)=_:=fun y k=>by unfold dD;rw[aP]
  by_cases h:a<m
  ·have hl:a<c.length:=by rw[hL.len];exact h
   have d1:decide ((a:Int)<(m:Int))=true:=by simp only[decide_eq_true_eq];omega
   have d2:((a:Int)<(c.length:Int))=True:=by simp only[eq_iff_iff,iff_true];omega
   have e0:(List.length (bT (bJ (.int .i64) (.map (.int .i64) .bool) (a:Int) (bT g.2.1))):Int)=((ks g (a:Int)).length:Int):=by simp[ks,nd]
   generalize hc2:c.set a ((ks g (a:Int)).length:Int)=c2
   have hc2l:c2.length=m:=by rw[←hc2,List.length_set,hL.len]
   have aam:nth (.int .i64) c2 (a:Int)=((ks g (a:Int)).length:Int):=by
    rw[db (t:=.int .i64) (show a<c2.length by omega)]
    subst hc2
    exact List.getElem_set_self ..
   have d3:((a:Int)<(c2.length:Int))=True:=by simp only[eq_iff_iff,iff_true];omega
   have hnum:∀z<a+1,c2[z]? =some ((ks g (z:Int)).length:Int):=by
    intro z hz
    subst hc2
    by_cases hza:z=a
    ·subst hza
     rw[List.getElem?_set_self hl]
    ·rw[List.getElem?_set_ne (Ne.symm hza)]
     exact hL.num z (by omega)
   have hw:aV ((a:Int)+1)=((a+1:Nat):Int):=aJ (by omega)
   by_cases hz:(ks g (a:Int)).length=0
   ·have hle:e.length≤m:=eO m e hL.nod fun x hx=>by
     obtain⟨h',h1,h2,_⟩:=(hL.mem x).1 hx
     omega
    obtain⟨e2,he2,p⟩:=Bf (a:=(a:Int)) (l:=e) (by omega)
    have hna:(a:Int)∉e:=fun hm=>by
     obtain⟨h',h1,h2,_⟩:=(hL.mem _).1 hm
     omega
    obtain⟨c',e',hL',hf⟩:=ih (a+1) c2 e2 (by omega) (by omega) ⟨hc2l,hnum,p.nodup_iff.2 (List.nodup_cons.2 ⟨hna,hL.nod⟩),fun x=>by
     rw[p.mem_iff,List.mem_cons,hL.mem]
     constructor
     ·rintro(rfl|⟨h',h1,h2,h3⟩)
      ·exact⟨a,by omega,rfl,hz⟩
      ·exact⟨h',by omega,h2,h3⟩
     ·rintro⟨h',h1,h2,h3⟩
      by_cases hh:h'=a
      ·subst hh;exact Or.inl h2
      ·exact Or.inr ⟨h',by omega,h2,h3⟩⟩
    refine⟨c',e',hL',fun y k=>?_⟩
    rw[hstep]
    have hf:=hf y k
    unfold dD at hf
    have d4:decide (((ks g (a:Int)).length:Int)=(0:Int))=true:=by rw[hz];rfl
    simp only[d1,Int.natCast_nonneg,d2,e0,Int.toNat_natCast,hc2,d3,aam,d4,if_true,he2,Option.bind_some,hw]
    exact hf
   ·obtain⟨c',e',hL',hf⟩:=ih (a+1) c2 e (by omega) (by omega) ⟨hc2l,hnum,hL.nod,fun x=>by
     rw[hL.mem]
     constructor
     ·rintro⟨h',h1,h2,h3⟩
      exact⟨h',by omega,h2,h3⟩
     ·rintro⟨h',h1,h2,h3⟩
      by_cases hh:h'=a
      ·subst hh;exact absurd h3 hz
      ·exact⟨h',by omega,h2,h3⟩⟩
    refine⟨c',e',hL',fun y k=>?_⟩
    rw[hstep]
    have hf:=hf y k
    unfold dD at hf
    have d4:decide (((ks g (a:Int)).length:Int)=(0:Int))=false:=decide_eq_false (by omega)
    simp only[d1,Int.natCast_nonneg,d2,e0,Int.toNat_natCast,hc2,d3,aam,d4,if_true,Bool.false_eq_true,if_false,hw]
    exact hf
  ·have:a=m:=by omega
   subst this
   refine⟨c,e,hL,fun y k=>?_⟩
   rw[hstep]
   have d1:decide ((a:Int)<(a:Int))=false:=decide_eq_false (by omega)
   simp only[d1,Bool.false_eq_true,if_false]
structure V8(m:Nat)(row:Zf)(op0:Nat→Nat)(q0:Zf)(a:Nat)(d e:Zf):Prop where
 len:d.length=m
 num:∀h<m,d[h]? =some ((op0 h:Int) -if(h:Int)∈row.take a then 1 else 0)
 nod:e.Nodup
 mem:∀x,x∈e↔x∈q0∨∃h:Nat,x=(h:Int)∧(h:Int)∈row.take a∧op0 h=1
theorem Km{g:dm}{m:Nat}(hg:GG g m)(U:ZT)(row:Zf)(op0:Nat→Nat)(q0:Zf)
 (hrd:row.Nodup) (hrr:∀x∈row,∃h:Nat,h<m∧x=(h:Int)∧1≤op0 h∧x∉q0) (hop:∀h,op0 h≤m) (hq:∀x∈q0,0≤x∧x<(m:Int)):
 ∀(n a:Nat)(d e:Zf),row.length -a<n→a≤row.length→V8 m row op0 q0 a d e→
 ∃d' e',V8 m row op0 q0 row.length d' e'∧∀(y:YC)(k:Zf),dB y.l (Yc y) n (y.l,U,row,(row.length:Int),(a:Int),y,0,y.gs 1,d,k,e)=some (.brk (y.l,U,y,0,y.gs 1,d',k,e')):=by
 intro n
 have hB:=hB
 have hsm:=hg.small
 have hrl:row.length≤m:=eO m row hrd fun x hx=>by obtain⟨h,h1,h2,_⟩:=hrr x hx;omega
 induction n with
 |zero=>intro a d e h;omega
 |
  succ n ih=>
  intro a d e hn ha hL
  have hstep:∀y k,dB y.l (Yc y) (n+1) (y.l,U,row,(row.length:Int),(a:Int),y,0,y.gs 1,d,k,e)=_:=fun y k=>by unfold dB;rw[aP]
  by_cases h:a<row.length
  ·have d1:decide ((a:Int)<(row.length:Int))=true:=by simp only[decide_eq_true_eq];omega
   have d2:((a:Int)<(row.length:Int))=True:=by simp only[eq_iff_iff,iff_true];omega
   obtain⟨u,hu,hru,hu1,huq⟩:=hrr row[a] (List.getElem_mem h)
   have hn1:nth (.int .i64) row (a:Int)=(u:Int):=by rw[db (t:=.int .i64) h,hru]
   have hul:u<d.length:=by rw[hL.len];exact hu
   have hnt:(u:Int)∉row.take a:=fun hm=>by
    have h1:=List.take_append_drop a row
    rw[←h1,List.nodup_append] at hrd
    have h2:(u:Int)∈row.drop a:=by rw[List.drop_eq_getElem_cons h,hru];exact List.mem_cons_self ..
    exact hrd.2.2 _ hm _ h2 rfl
   have hdu:nth (.int .i64) d (u:Int)=(op0 u:Int):=by
    rw[db (t:=.int .i64) hul]
    have:=hL.num u hu
    rw[List.getElem?_eq_getElem hul,if_neg hnt,Int.sub_zero] at this
    exact Option.some.inj this
   have hw1:aV ((op0 u:Int) -1)=(op0 u:Int) -1:=fT (by omega) (by have:=hop u;omega)
   have d3:((u:Int)<(d.length:Int))=True:=by simp only[eq_iff_iff,iff_true];omega
   generalize hc2:d.set u ((op0 u:Int) -1)=d2'
   have hc2l:d2'.length=m:=by rw[←hc2,List.length_set,hL.len]
   have d4:((u:Int)<(d2'.length:Int))=True:=by simp only[eq_iff_iff,iff_true];omega
   have aam:nth (.int .i64) d2' (u:Int)=(op0 u:Int) -1:=by
    rw[db (t:=.int .i64) (show u<d2'.length by omega)]
    subst hc2
    exact List.getElem_set_self ..
   have htk:∀z:Int,z∈row.take (a+1)↔z∈row.take a∨z=(u:Int):=fun z=>by
    rw[List.take_succ_eq_append_getElem h,List.mem_append,List.mem_singleton,hru]
   have hnum:∀z<m,d2'[z]? =some ((op0 z:Int) -if(z:Int)∈row.take (a+1) then 1 else 0):=by
    intro z hz
    subst hc2
    by_cases hzu:z=u
    ·subst hzu
     rw[List.getElem?_set_self hul,if_pos ((htk _).2 (Or.inr rfl))]
    ·rw[List.getElem?_set_ne (Ne.symm hzu),hL.num z hz]
     have:((z:Int)∈row.take (a+1))=((z:Int)∈row.take a):=by
      rw[eq_iff_iff,htk]
      exact⟨fun h=>h.resolve_right (by omega),Or.inl⟩
     simp only[this]
   have hw:aV ((a:Int)+1)=((a+1:Nat):Int):=aJ (by omega)
   by_cases hz:op0 u=1
   ·have hna:(u:Int)∉e:=fun hm=>by
     rcases(hL.mem _).1 hm with h1|⟨h',h1,h2,_⟩
     ·exact huq (hru▸h1)
     ·have:h'=u:=by omega
      subst this;exact hnt h2
    have hle:e.length≤m:=eO m e hL.nod fun x hx=>by
     rcases(hL.mem x).1 hx with h1|⟨h',h1,h2,_⟩
     ·exact hq x h1
     ·obtain⟨h'',h3,h4,_⟩:=hrr _ (List.mem_of_mem_take h2)
      omega
    obtain⟨e2,he2,p⟩:=Bf (a:=(u:Int)) (l:=e) (by omega)
    obtain⟨d',e',hL',hf⟩:=ih (a+1) d2' e2 (by omega) (by omega) ⟨hc2l,hnum,p.nodup_iff.2 (List.nodup_cons.2 ⟨hna,hL.nod⟩),fun x=>by
     rw[p.mem_iff,List.mem_cons,hL.mem]
     constructor
     ·rintro(rfl|h1|⟨h',h1,h2,h3⟩)
      ·exact Or.inr ⟨u,rfl,(htk _).2 (Or.inr rfl),hz⟩
      ·exact Or.inl h1
      ·exact Or.inr ⟨h',h1,(htk _).2 (Or.inl h2),h3⟩
     ·rintro(h1|⟨h',h1,h2,h3⟩)
      ·exact Or.inr (Or.inl h1)
      ·rcases(htk _).1 h2 with h2|h2
       ·exact Or.inr (Or.inr ⟨h',h1,h2,h3⟩)
       ·exact Or.inl (h1.trans h2)⟩
    refine⟨d',e',hL',fun y k=>?_⟩
    rw[hstep]
    have hf:=hf y k
    unfold dB at hf
    have d5:decide ((op0 u:Int) -1=(0:Int))=true:=decide_eq_true (by omega)
    simp only[Int.natCast_nonneg,d2,hn1,hdu,hw1,d3,Int.toNat_natCast,hc2,d4,aam,d5,if_true,he2,Option.bind_some,hw]
    exact hf
   ·obtain⟨d',e',hL',hf⟩:=ih (a+1) d2' e (by omega) (by omega) ⟨hc2l,hnum,hL.nod,fun x=>by
     rw[hL.mem]
     constructor
     ·rintro(h1|⟨h',h1,h2,h3⟩)
      ·exact Or.inl h1
      ·exact Or.inr ⟨h',h1,(htk _).2 (Or.inl h2),h3⟩
     ·rintro(h1|⟨h',h1,h2,h3⟩)
      ·exact Or.inl h1
      ·rcases(htk _).1 h2 with h2|h2
       ·exact Or.inr ⟨h',h1,h2,h3⟩
       ·have:h'=u:=by omega
        subst this;exact absurd h3 hz⟩
    refine⟨d',e',hL',fun y k=>?_⟩
    rw[hstep]
    have hf:=hf y k
    unfold dB at hf
    have d5:decide ((op0 u:Int) -1=(0:Int))=false:=decide_eq_false (by omega)
    simp only[Int.natCast_nonneg,d2,hn1,hdu,hw1,d3,Int.toNat_natCast,hc2,d4,aam,d5,if_true,Bool.false_eq_true,if_false,hw]
    exact hf
  ·have:a=row.length:=by omega
   subst this
   refine⟨d,e,hL,fun y k=>?_⟩
   rw[hstep]
   have d1:decide ((row.length:Int)<(row.length:Int))=false:=decide_eq_false (by omega)
   simp only[d1,Bool.false_eq_true,if_false]
structure KI(g:dm)(m:Nat)(q out op:Zf):Prop where
 len:op.length=m
 num:∀h<m,op[h]? =some (zp g out (h:Int):Int)
 nod:(q++out).Nodup
 xx:∀x∈q++out,0≤x∧x<(m:Int)
 zero:∀h:Nat,h<m→((h:Int)∈q++out↔zp g out (h:Int)=0)
 pre:∀i(hi:i<out.length),∀x∈ks g out[i],x∈out.take i
structure KO(g:dm)(m:Nat)(out:Zf):Prop where
 nod:out.Nodup
 xx:∀x∈out,0≤x∧x<(m:Int)
 pre:∀i(hi:i<out.length),∀x∈ks g out[i],x∈out.take i
theorem Kn{g:dm}{m x:Nat}(hx:x<m):nth (.slice 8 (.int .i64)) (us g m m) (x:Int)=((List.range m).filter fun h:Nat=>decide ((x:Int)∈ks g (h:Int))).map fun h:Nat=>(h:Int):=by
 rw[db (t:=.slice 8 (.int .i64)) (show x<(us g m m).length by rw[nI];exact hx)]
 simp only[us,List.getElem_map,List.getElem_range]
theorem MX{g:dm}{m:Nat}(hg:GG g m):∀(n:Nat)(q out op:Zf),m -out.length<n→KI g m q out op→
 ∃out',KO g m out'∧∀y:YC,dE y.l (Yc y) n (y.l,us g m m,y,0,y.gs 1,op,q,out)=some (.brk (y,0,y.gs 1,out')):=by
 intro n
 have hB:=hB
 have hsm:=hg.small
 induction n with
 |zero=>intro q out op h;omega
 |
  succ n ih=>
  intro q out op hn hK
  have hstep:∀y,dE y.l (Yc y) (n+1) (y.l,us g m m,y,0,y.gs 1,op,q,out)=_:=fun y=>by unfold dE;rw[aP]
  have hqn:q.Nodup:=(List.nodup_append.1 hK.nod).1
  have hon:out.Nodup:=(List.nodup_append.1 hK.nod).2.1
  have hdis:=(List.nodup_append.1 hK.nod).2.2
  have hor:∀x∈out,0≤x∧x<(m:Int):=fun x hx=>hK.xx x (List.mem_append_right _ hx)
  by_cases hq:q= []
  ·subst hq
   refine⟨out,⟨hon,hor,hK.pre⟩,fun y=>?_⟩
   rw[hstep]
   have e1:f150 []=some (0:Int):=rfl
   simp only[e1,Option.bind_some,show decide ((0:Int)<0)=false from rfl,Bool.false_eq_true,if_false]
  ·have hql:q.length≤m:=eO m q hqn fun x hx=>hK.xx x (List.mem_append_left _ hx)
   obtain⟨x0,q1,hpop,p⟩:=Kj hq (by omega)
   have hxq:x0∈q:=p.mem_iff.1 (List.mem_cons_self ..)
   obtain⟨x,hx,rfl⟩:∃x:Nat,x<m∧x0=(x:Int):=by
    have:=hK.xx x0 (List.mem_append_left _ hxq)
    exact⟨x0.toNat,by omega,by omega⟩
   have hpn:=List.nodup_cons.1 (p.nodup_iff.2 hqn)
   have hxo:(x:Int)∉out:=fun h=>hdis _ hxq _ h rfl
   have hx0:zp g out (x:Int)=0:=(hK.zero x hx).1 (List.mem_append_left _ hxq)
   have hol:(out++[(x:Int)]).length≤m:=eO m _ (by
    rw[List.nodup_append]
    refine⟨hon,by simp,fun a ha b hb=>?_⟩
    rw[List.mem_singleton] at hb
    subst hb
    exact fun e=>hxo (e▸ha)) fun z hz=>by
    rcases List.mem_append.1 hz with h|h
    ·exact hor z h
    ·rw[List.mem_singleton] at h;omega
   rw[List.length_append,List.length_singleton] at hol
   generalize hrow:(((List.range m).filter fun h:Nat=>decide ((x:Int)∈ks g (h:Int))).map fun h:Nat=>(h:Int))=row
   have hrm:∀h:Nat,(h:Int)∈row↔h<m∧(x:Int)∈ks g (h:Int):=fun h=>by
    rw[←hrow,List.mem_map]
    constructor
    ·rintro⟨h',h1,h2⟩
     have:h'=h:=by omega
     subst this
     have:=List.mem_filter.1 h1
     exact⟨List.mem_range.1 this.1,of_decide_eq_true this.2⟩
    ·rintro⟨h1,h2⟩
     exact⟨h,List.mem_filter.2 ⟨List.mem_range.2 h1,decide_eq_true h2⟩,rfl⟩
   have hrn:row.Nodup:=by
    rw[←hrow]
    refine List.Pairwise.map _ (fun a b hab=>?_) (List.nodup_range.filter _)
    exact fun e=>hab (by omega)
   have hc1:∀h:Nat,(x:Int)∈ks g (h:Int)→1≤zp g out (h:Int):=fun h hm=>by
    rw[Bh hg hxo,if_pos hm];omega
   have hrr:∀z∈row,∃h:Nat,h<m∧z=(h:Int)∧1≤zp g out (h:Int)∧z∉q1:=fun z hz=>by
    obtain⟨h,h1,h2⟩:=List.mem_map.1 (hrow▸hz)
    subst h2
    have h3:=(hrm h).1 hz
    refine⟨h,h3.1,rfl,hc1 h h3.2,fun hm=>?_⟩
    have:=(hK.zero h h3.1).1 (List.mem_append_left _ (p.mem_iff.1 (List.mem_cons_of_mem _ hm)))
    have:=hc1 h h3.2
    omega
   obtain⟨d',e',hL,hf⟩:=Km hg (us g m m) row (fun h=>zp g out (h:Int)) q1 hrn hrr (fun h=>Kl hg _ _) (fun z hz=>hK.xx z (List.mem_append_left _ (p.mem_iff.1 (List.mem_cons_of_mem _ hz))))
    (row.length+1) 0 op q1 (by omega) (by omega) ⟨hK.len,fun h hh=>by rw[hK.num h hh];simp,hpn.2,fun z=>by simp⟩
   have hK':KI g m e' (out++[(x:Int)]) d':=by
    have hcnt:∀h:Nat,zp g out (h:Int)=zp g (out++[(x:Int)]) (h:Int)+if(x:Int)∈ks g (h:Int) then 1 else 0:=fun h=>Bh hg hxo
    have hmem:∀z,z∈e'↔z∈q1∨∃h:Nat,z=(h:Int)∧(h:Int)∈row∧zp g out (h:Int)=1:=fun z=>by
     have:=hL.mem z
     rw[List.take_length] at this
     exact this
    have hq1:∀z,z∈q1→z∈q∧z≠(x:Int):=fun z hz=>⟨p.mem_iff.1 (List.mem_cons_of_mem _ hz),fun e=>hpn.1 (e▸hz)⟩
    refine⟨hL.len,fun h hh=>?_,?_,fun z hz=>?_,fun h hh=>?_,fun i hi z hz=>?_⟩
    ·have:=hL.num h hh
     rw[List.take_length] at this
     rw[this]
     have h1:=hcnt h
     by_cases hxk:(x:Int)∈ks g (h:Int)
     ·rw[if_pos hxk] at h1
      rw[if_pos ((hrm h).2 ⟨hh,hxk⟩)]
      exact congrArg some (by omega)
     ·rw[if_neg hxk] at h1
      rw[if_neg (fun hm=>hxk ((hrm h).1 hm).2)]
      exact congrArg some (by omega)
    ·rw[List.nodup_append]
     refine⟨hL.nod,?_,fun a ha b hb=>?_⟩
     ·rw[List.nodup_append]
      refine⟨hon,by simp,fun a ha b hb=>?_⟩
      rw[List.mem_singleton] at hb
      subst hb
      exact fun e=>hxo (e▸ha)
     ·rintro rfl
      rcases(hmem a).1 ha with h1|⟨h,h1,h2,h3⟩
      ·rcases List.mem_append.1 hb with h4|h4
       ·exact hdis _ (hq1 a h1).1 _ h4 rfl
       ·exact(hq1 a h1).2 (List.mem_singleton.1 h4)
      ·subst h1
       have h4:(h:Int)∈q++out:=by
        rcases List.mem_append.1 hb with h5|h5
        ·exact List.mem_append_right _ h5
        ·rw[List.mem_singleton.1 h5];exact List.mem_append_left _ hxq
       have:=(hK.zero h ((hrm h).1 h2).1).1 h4
       omega
    ·rcases List.mem_append.1 hz with h1|h1
     ·rcases(hmem z).1 h1 with h2|⟨h,h2,h3,_⟩
      ·exact hK.xx z (List.mem_append_left _ (hq1 z h2).1)
      ·have:=((hrm h).1 h3).1;omega
     ·rcases List.mem_append.1 h1 with h2|h2
      ·exact hor z h2
      ·rw[List.mem_singleton] at h2;omega
    ·have h1:=hcnt h
     have h2:=hK.zero h hh
     rw[List.mem_append,List.mem_append,List.mem_singleton,hmem]
     constructor
     ·rintro((h3|⟨h',h3,h4,h5⟩)|h3|h3)
      ·have:=h2.1 (List.mem_append_left _ (hq1 _ h3).1);omega
      ·have:h'=h:=by omega
       subst this
       rw[if_pos ((hrm _).1 h4).2] at h1;omega
      ·have:=h2.1 (List.mem_append_right _ h3);omega
      ·have:=h2.1 (List.mem_append_left _ (h3▸hxq));omega
     ·intro h3
      by_cases hz0:zp g out (h:Int)=0
      ·rcases List.mem_append.1 (h2.2 hz0) with h4|h4
       ·rcases List.mem_cons.1 (p.mem_iff.2 h4) with h5|h5
        ·exact Or.inr (Or.inr h5)
        ·exact Or.inl (Or.inl h5)
       ·exact Or.inr (Or.inl h4)
      ·by_cases hxk:(x:Int)∈ks g (h:Int)
       ·rw[if_pos hxk] at h1
        exact Or.inl (Or.inr ⟨h,rfl,(hrm h).2 ⟨hh,hxk⟩,by omega⟩)
       ·rw[if_neg hxk] at h1;omega
    ·by_cases hio:i<out.length
     ·rw[List.getElem_append_left hio] at hz
      rw[List.take_append_of_le_length (by omega)]
      exact hK.pre i hio z hz
     ·have hi':i=out.length:=by rw[List.length_append,List.length_singleton] at hi;omega
      subst hi'
      rw[List.getElem_append_right (Nat.le_refl _)] at hz
      simp only[Nat.sub_self,List.getElem_singleton] at hz
      rw[List.take_append_of_le_length (Nat.le_refl _),List.take_length]
      by_cases hzo:z∈out
      ·exact hzo
      ·have:z∈(ks g (x:Int)).filter fun w=>decide (w∉out):=List.mem_filter.2 ⟨hz,decide_eq_true hzo⟩
       have h9:((ks g (x:Int)).filter fun w=>decide (w∉out))= []:=List.length_eq_zero_iff.1 hx0
       rw[h9] at this
       exact absurd this List.not_mem_nil
   obtain⟨out',hO,hr⟩:=ih e' (out++[(x:Int)]) d' (by rw[List.length_append,List.length_singleton];omega) hK'
   refine⟨out',hO,fun y=>?_⟩
   rw[hstep]
   have hr:=hr y
   have hf:=hf y (out++[(x:Int)])
   unfold dE at hr
   have e1:f150 q=some (q.length:Int):=rfl
   have d1:decide ((0:Int)<(q.length:Int))=true:=decide_eq_true (by have:=List.length_pos_iff.2 hq;omega)
   have e2:Yc y ((x:Int),y,0,y.gs 1,out,())=some (true,y,0,y.gs 1,out++[(x:Int)]):=MV y (x:Int) out (by omega)
   have d2:((x:Int)<((us g m m).length:Int))=True:=by rw[nI];simp only[eq_iff_iff,iff_true];omega
   simp only[e1,Option.bind_some,d1,if_true,hpop,e2,Bool.not_true,Bool.false_eq_true,if_false,aG,Int.natCast_nonneg,d2,Kn hx,hrow,Int.toNat_natCast]
   have hf':dB y.l (Yc y) (row.length+1) (y.l,us g m m,row,(row.length:Int),(0:Int),y,0,y.gs 1,op,out++[(x:Int)],q1)=some (.brk (y.l,us g m m,y,0,y.gs 1,d',out++[(x:Int)],e')):=hf
   rw[hf',aG]
   exact hr
theorem MY{g:dm}{m:Nat}(hg:GG g m):∃out,KO g m out∧∀y:YC,gw y.l (Yc y) y.l g y 0 (y.gs 1) []=some (y,0,y.gs 1,out):=by
 have hB:=hB
 have hsm:=hg.small
 obtain⟨c',e',hL,h3⟩:=MW hg (us g m m) (m+1) 0 (List.replicate m (0:Int)) [] (by omega) (by omega) ⟨List.length_replicate ..,fun h hh=>by omega,List.nodup_nil,fun x=>by simp⟩
 obtain⟨out,hO,h9⟩:=MX hg ff e' [] c' (xJ (by simp;omega)) ⟨hL.len,fun h hh=>by rw[hL.num h hh,Bg],by rw[List.append_nil];exact hL.nod,fun x hx=>by
  rw[List.append_nil] at hx
  obtain⟨h,h1,h2,_⟩:=(hL.mem x).1 hx
  omega,fun h hh=>by
  rw[List.append_nil,hL.mem,Bg]
  constructor
  ·rintro⟨h',h1,h2,h3⟩
   have:h'=h:=by omega
   subst this;exact h3
  ·intro h1;exact⟨h,hh,rfl,h1⟩,fun i hi=>by simp at hi⟩
 refine⟨out,hO,fun y=>?_⟩
 have h3:=h3 y []
 have h3':dD y.l (Yc y) (m+1) (y.l,g,us g m m,(m:Int),(0:Int),y,0,y.gs 1,[],List.replicate m (0:Int),[])=some (.brk (y.l,us g m m,y,0,y.gs 1,[],c',e')):=h3
 unfold gw
 rw[Ec hg,Option.bind_some,hg.many,if_pos (Int.natCast_nonneg m),if_pos (Int.le_refl _),if_pos (by omega),Int.toNat_natCast]
 erw[h3']
 rw[aG]
 dsimp only
 rw[h9 y,aG]
theorem zr{g:dm}{m:Nat}(hg:GG g m):∃out,KO g m out∧j6 g=some out:=by
 obtain⟨out,hO,h⟩:=MY hg
 refine⟨out,hO,?_⟩
 unfold j6 ph
 rw[kE (r:=.brk out)]
 ·rfl
 ·intro y
  erw[h y]
  simp only[Option.bind_some,dK,if_true]
abbrev NM:=ZN
def kk(M:NM)(h:Int):Zf:=(bT (bJ (.int .i64) (.map (.int .i64) .bool) h M)).map (·.1)
theorem hJ{α:Type}{k z:Int}{v:α}{es:List (Int×α)}:z∈(bz (.int .i64) k v es).map (·.1)↔z=k∨z∈es.map (·.1):=by
 have h1:=ee (kt:=.int .i64) rfl (k:=z) (es:=bz (.int .i64) k v es)
 have h2:=ee (kt:=.int .i64) rfl (k:=z) (es:=es)
 by_cases h:z=k
 ·subst h
  exact⟨fun _=>Or.inl rfl,fun _=>h1.1 (jV (kt:=.int .i64) rfl _ _ _)⟩
 ·rw[lZ (kt:=.int .i64) rfl h] at h1
  exact⟨fun hz=>Or.inr (h2.1 (h1.2 hz)),fun hz=>h1.1 (h2.2 (hz.resolve_left h))⟩
theorem mM{M:NM}{h:Int}{L:Zn}:kk (bz (.int .i64) h (some L) M) h=L.map (·.1):=by
 unfold kk
 rw[gM (kt:=.int .i64) (vt:=.map (.int .i64) .bool) rfl]
 rfl
theorem mN{M:NM}{h z:Int}{L:Ze}(hz:z≠h):kk (bz (.int .i64) h L M) z=kk M z:=by
 unfold kk
 rw[fh (kt:=.int .i64) (vt:=.map (.int .i64) .bool) rfl hz]
structure RG(m:Nat)(M:NM):Prop where
 nod:∀h,(kk M h).Nodup
 xx:∀h x,x∈kk M h→0≤x∧x<(m:Int)
 Ko:(M.map (·.1)).Nodup
 HR:∀x∈M.map (·.1),0≤x∧x<(m:Int)
theorem ou(m x:Int)(M:NM):l9 m x M=some (decide (0≤x∧x<m),M):=by
 unfold l9
 by_cases h:0≤x
 ·rw[if_pos (decide_eq_true h),Option.bind_some]
  simp[h]
 ·rw[if_neg (by simp[h]),Option.bind_some]
  simp[h]
theorem RG.put{m:Nat}{M:NM}(hM:RG m M){h x:Int}(hh:h∈M.map (·.1))(hx:0≤x∧x<(m:Int)):
 RG m (bz (.int .i64) h (some (bz (.int .i64) x true (bT (bJ (.int .i64) (.map (.int .i64) .bool) h M)))) M):=by
 refine⟨fun z=>?_,fun z y hy=>?_,cZ (kt:=.int .i64) rfl hM.Ko,fun z hz=>?_⟩
 ·by_cases hz:z=h
  ·subst hz
   rw[mM]
   exact cZ (kt:=.int .i64) rfl (hM.nod z)
  ·rw[mN hz];exact hM.nod z
 ·by_cases hz:z=h
  ·subst hz
   rw[mM,hJ] at hy
   rcases hy with rfl|hy
   ·exact hx
   ·exact hM.xx z y hy
  ·rw[mN hz] at hy;exact hM.xx z y hy
 ·rw[hJ] at hz
  rcases hz with rfl|hz
  ·exact hM.HR _ hh
  ·exact hM.HR z hz
theorem Ed{M:NM}{h x z y:Int}:y∈kk (bz (.int .i64) h (some (bz (.int .i64) x true (bT (bJ (.int .i64) (.map (.int .i64) .bool) h M)))) M) z↔(z=h∧y=x)∨y∈kk M z:=by
 by_cases hz:z=h
 ·subst hz
  rw[mM,hJ]
  exact⟨fun hy=>hy.imp (fun e=>⟨rfl,e⟩) id,fun hy=>hy.imp (·.2) id⟩
 ·rw[mN hz]
  exact⟨Or.inr,fun hy=>hy.resolve_left fun e=>hz e.1⟩
abbrev Ee:Int×dm:=((140:Int),((0:Int),((none:Option NM),())))
theorem Kp{m:Nat}(hsm:m≤1000000)(i:Zm)(j k:Int)(fr:Zv)(h:cF)(hfr:fr.length≤aC):∀(n c:Nat)(M:NM),fr.length -c<n→c≤fr.length→RG m M→h.2.1∈M.map (·.1)→(∀z(hz:z<fr.length),z<c→fr[z].2.2.1∈kk M h.2.1)→
 (∃M',kI n (i,j,k,fr,(fr.length:Int),(c:Int),(m:Int),h,M)=some (.brk (i,j,k,(m:Int),M'))∧RG m M'∧(∀z y,y∈kk M z→y∈kk M' z)∧∀f∈fr,f.2.2.1∈kk M' h.2.1)∨
  kI n (i,j,k,fr,(fr.length:Int),(c:Int),(m:Int),h,M)=some (.ret (.ret Ee)):=by
 intro n
 have hB:=hB
 induction n with
 |zero=>intro c M h;omega
 |
  succ n ih=>
  intro c M hn hc hM hh hd
  unfold kI at ih ⊢
  rw[aP]
  generalize aH _ n=rec at ih ⊢
  dsimp only
  by_cases hcl:c<fr.length
  ·rw[if_pos (decide_eq_true (by omega)),if_pos (Int.natCast_nonneg c),if_pos (show(c:Int)<(fr.length:Int) by omega),db (t:=aK) hcl,ou,Option.bind_some]
   dsimp only
   by_cases hx:0≤fr[c].2.2.1∧fr[c].2.2.1<(m:Int)
   ·rw[if_neg (by simp[hx]),if_pos (ee (kt:=.int .i64) rfl |>.2 hh),if_pos (fw (kt:=.int .i64) rfl _)]
    have hlen:(bT (bJ (.int .i64) (.map (.int .i64) .bool) h.2.1 M)).length≤m:=by
     have:=eO m (kk M h.2.1) (hM.nod _) (hM.xx _)
     unfold kk at this
     rw[List.length_map] at this
     exact this
    rw[if_pos (by omega),aJ (by omega)]
    rcases ih (c+1) _ (by omega) (by omega) (hM.put hh hx) (by rw[hJ];exact Or.inl rfl) (fun z hz hzc=>by
     rw[Ed]
     by_cases e:z=c
     ·subst e;exact Or.inl ⟨rfl,rfl⟩
     ·exact Or.inr (hd z hz (by omega))) with⟨M',e,h1,h2,h3⟩|e
    ·exact Or.inl ⟨M',e,h1,fun z y hy=>h2 z y (Ed.2 (Or.inr hy)),h3⟩
    ·exact Or.inr e
   ·rw[if_pos (by simp[hx])]
    exact Or.inr rfl
  ·rw[if_neg (by simp only[decide_eq_true_eq];omega)]
   refine Or.inl ⟨M,rfl,hM,fun _ _ h=>h,fun f hf=>?_⟩
   obtain⟨z,hz,rfl⟩:=List.getElem_of_mem hf
   exact hd z hz (by omega)
theorem MZ{m:Nat}(hsm:m≤1000000)(rs:Zm)(hrs:rs.length≤aC)(hfr:∀r∈rs,r.2.2.1.length≤aC):∀(n c:Nat)(M:NM),rs.length -c<n→c≤rs.length→RG m M→(∀z(hz:z<rs.length),z<c→∀f∈rs[z].2.2.1,f.2.2.1∈kk M rs[z].2.1)→
 (∃M',ng n (rs,(rs.length:Int),(c:Int),(m:Int),M)=some (.brk ((m:Int),M'))∧RG m M'∧∀r∈rs,∀f∈r.2.2.1,f.2.2.1∈kk M' r.2.1)∨
  ng n (rs,(rs.length:Int),(c:Int),(m:Int),M)=some (.ret Ee):=by
 intro n
 have hB:=hB
 induction n with
 |zero=>intro c M h;omega
 |
  succ n ih=>
  intro c M hn hc hM hd
  unfold ng at ih ⊢
  rw[aP]
  generalize aH _ n=rec at ih ⊢
  dsimp only
  by_cases hcl:c<rs.length
  ·rw[if_pos (decide_eq_true (by omega)),if_pos (Int.natCast_nonneg c),if_pos (show(c:Int)<(rs.length:Int) by omega),db (t:=bu) hcl,ou,Option.bind_some]
   dsimp only
   by_cases hx:0≤rs[c].2.1∧rs[c].2.1<(m:Int)
   ·rw[if_neg (by simp[hx])]
    have hput:∃M1,RG m M1∧rs[c].2.1∈M1.map (·.1)∧(∀z y,y∈kk M z→y∈kk M1 z)∧
     (if(!(cp (.int .i64) rs[c].2.1 M))=true then(if cp (.int .i64) rs[c].2.1 M=false then(if aU (.int .i64) rs[c].2.1 rs[c].2.1=true then(if List.length M+1≤aC then(some (cz.brk (rs,(rs.length:Int),(c:Int),(m:Int),rs[c],bz (.int .i64) rs[c].2.1 (some ([]:Zn)) (bz (.int .i64) rs[c].2.1 (Ty.aB (.map (.int .i64) .bool)) M)))) else none) else none) else none) else(some (.brk (rs,(rs.length:Int),(c:Int),(m:Int),rs[c],M))):Option (cz (List cF×Int×Int×Int×cF×NM) (cz (List cF×Int×Int×Int×NM) (cz (Int×NM) (Int×dm)))))=some (.brk (rs,(rs.length:Int),(c:Int),(m:Int),rs[c],M1)):=by
     cases hm:cp (.int .i64) rs[c].2.1 M with
     |true=>exact⟨M,hM,ee (kt:=.int .i64) rfl |>.1 hm,fun _ _ h=>h,by rw[if_neg (by simp)]⟩
     |
      false=>
      have hno:rs[c].2.1∉M.map (·.1):=fun h=>by
       have:=ee (kt:=.int .i64) rfl |>.2 h
       rw[hm] at this;cases this
      have hk0:kk M rs[c].2.1= []:=by
       unfold kk
       rw[uQ (kt:=.int .i64) hm]
       rfl
      have hlen:M.length≤m:=by
       have:=eO m (M.map (·.1)) hM.Ko hM.HR
       rw[List.length_map] at this
       exact this
      refine⟨_,⟨fun z=>?_,fun z y hy=>?_,cZ (kt:=.int .i64) rfl (cZ (kt:=.int .i64) rfl hM.Ko),fun z hz=>?_⟩,hJ.2 (Or.inl rfl),fun z y hy=>?_,by rw[if_pos (by simp),if_pos rfl,if_pos (fw (kt:=.int .i64) rfl _),if_pos (by omega)]⟩
      ·by_cases hz:z=rs[c].2.1
       ·subst hz;rw[mM];exact List.nodup_nil
       ·rw[mN hz,mN hz];exact hM.nod z
      ·by_cases hz:z=rs[c].2.1
       ·subst hz;rw[mM] at hy;cases hy
       ·rw[mN hz,mN hz] at hy;exact hM.xx z y hy
      ·rw[hJ,hJ] at hz
       rcases hz with rfl|rfl|hz
       ·exact hx
       ·exact hx
       ·exact hM.HR z hz
      ·by_cases hz:z=rs[c].2.1
       ·subst hz;rw[hk0] at hy;cases hy
       ·rw[mN hz,mN hz];exact hy
    obtain⟨M1,hM1,hh1,hk1,e1⟩:=hput
    rw[e1,aG]
    dsimp only
    rcases Kp hsm rs (rs.length:Int) (c:Int) rs[c].2.2.1 rs[c] (hfr _ (List.getElem_mem hcl)) (rs[c].2.2.1.length+1) 0 M1 (by omega) (by omega) hM1 hh1 (fun z hz h=>by omega) with⟨M',e,h1,h2,h3⟩|e
    ·have e':kI (Int.toNat (List.length rs[c].2.2.1:Int)+1) (rs,(rs.length:Int),(c:Int),rs[c].2.2.1,(List.length rs[c].2.2.1:Int),(0:Int),(m:Int),rs[c],M1)=some (.brk (rs,(rs.length:Int),(c:Int),(m:Int),M')):=e
     rw[e',aG]
     dsimp only
     rw[aJ (by omega)]
     exact ih (c+1) M' (by omega) (by omega) h1 fun z hz hzc f hf=>by
      by_cases ec:z=c
      ·subst ec;exact h3 f hf
      ·exact h2 _ _ (hk1 _ _ (hd z hz (by omega) f hf))
    ·have e':kI (Int.toNat (List.length rs[c].2.2.1:Int)+1) (rs,(rs.length:Int),(c:Int),rs[c].2.2.1,(List.length rs[c].2.2.1:Int),(0:Int),(m:Int),rs[c],M1)=some (.ret (.ret Ee)):=e
     rw[e',dM]
     exact Or.inr rfl
   ·rw[if_pos (by simp[hx])]
    exact Or.inr rfl
  ·rw[if_neg (by simp only[decide_eq_true_eq];omega)]
   refine Or.inl ⟨M,rfl,hM,fun r hr=>?_⟩
   obtain⟨z,hz,rfl⟩:=List.getElem_of_mem hr
   exact hd z hz (by omega)
structure SB(s:cK):Prop where
 schemas:s.2.2.1.length≤1000000
 rules:s.2.2.2.1.length≤aC
 M0:∀r∈s.2.2.2.1,r.2.2.1.length≤aC
theorem HS{s:cK}(hs:SB s):(∃g,f95 s=some ((0:Int),g)∧GG g s.2.2.1.length∧∀r∈s.2.2.2.1,∀f∈r.2.2.1,f.2.2.1∈ks g r.2.1)∨f95 s=some Ee:=by
 have key:=MZ hs.schemas s.2.2.2.1 hs.rules hs.M0 (s.2.2.2.1.length+1) 0 [] (by omega) (by omega) ⟨fun h=>List.nodup_nil,fun h x hx=>(by cases hx),List.nodup_nil,fun x hx=>(by cases hx)⟩ (fun z hz h=>by omega)
 unfold f95
 rcases key with⟨M',e,h1,h2⟩|e
 ·have e':ng (Int.toNat (List.length s.2.2.2.1:Int)+1) (s.2.2.2.1,(List.length s.2.2.2.1:Int),(0:Int),(List.length s.2.2.1:Int),([]:NM))=some (.brk ((s.2.2.1.length:Int),M')):=e
  rw[e',aG]
  exact Or.inl ⟨_,rfl,⟨rfl,hs.schemas,fun h=>h1.nod h,fun h x hx=>h1.xx h x hx⟩,h2⟩
 ·have e':ng (Int.toNat (List.length s.2.2.2.1:Int)+1) (s.2.2.2.1,(List.length s.2.2.2.1:Int),(0:Int),(List.length s.2.2.1:Int),([]:NM))=some (.ret Ee):=e
  rw[e',dM]
  exact Or.inr rfl
structure Ranked(s:cK)(l:Zf):Prop where
 nod:l.Nodup
 all:∀x,x∈l↔0≤x∧x<(s.2.2.1.length:Int)
 pre:∀r∈s.2.2.2.1,∀f∈r.2.2.1,l.idxOf f.2.2.1<l.idxOf r.2.1
theorem KO.all{g:dm}{m:Nat}{out:Zf}(h:KO g m out)(hl:m≤out.length)(x:Int):x∈out↔0≤x∧x<(m:Int):=by
 refine⟨h.xx x,fun hx=>?_⟩
 by_cases hm:x∈out
 ·exact hm
 ·have:=eO m (x::out) (List.nodup_cons.2 ⟨hm,h.nod⟩) fun y hy=>by
   rcases List.mem_cons.1 hy with rfl|hy
   ·exact hx
   ·exact h.xx y hy
  rw[List.length_cons] at this
  omega
theorem xj{s:cK}(hs:SB s):∃l ok e,f61 s=some (l,ok,e)∧(e=0→ok=true→(∀r∈s.2.2.2.1,0≤r.2.1∧r.2.1<(s.2.2.1.length:Int))→Ranked s l):=by
 unfold f61
 rcases HS hs with⟨g,e,hg,hn⟩|e
 ·rw[e,Option.bind_some]
  dsimp only
  rw[if_neg (by decide)]
  obtain⟨out,hO,ho⟩:=zr hg
  have ho:=(xg g).trans ho
  have e2:xX g=some g:=rfl
  rw[e2,Option.bind_some,ho,Option.bind_some,hg.many]
  by_cases hl:out.length<s.2.2.1.length
  ·rw[if_pos (decide_eq_true (by omega))]
   exact⟨_,_,_,rfl,fun _ h=>(by cases h)⟩
  ·rw[if_neg (by simp only[decide_eq_true_eq];omega)]
   refine⟨_,_,_,rfl,fun _ _ hr=>⟨hO.nod,hO.all (by omega),fun r hrm f hf=>?_⟩⟩
   have hin:r.2.1∈out:=(hO.all (by omega) _).2 (hr r hrm)
   have hi:=List.idxOf_lt_length_of_mem hin
   have h1:=hO.pre _ hi f.2.2.1 (by rw[List.getElem_idxOf];exact hn r hrm f hf)
   obtain⟨j,hj,e3⟩:=List.getElem_of_mem h1
   rw[List.length_take] at hj
   rw[List.getElem_take] at e3
   rw[←e3,hO.nod.idxOf_getElem]
   omega
 ·rw[e,Option.bind_some]
  dsimp only
  rw[if_pos (by decide)]
  exact⟨_,_,_,rfl,fun h=>(by cases h)⟩
theorem bindT{A R:Type}{x:Option A}{f:A→Option R}(hx:∃a,x=some a)(hf:∀a,∃r,f a=some r):∃r,Option.bind x f=some r:=by
 obtain⟨a,rfl⟩:=hx
 exact hf a
theorem equalS_ans(x y:ZH)(hl:x.length≤aC):∃r,f97 x y=some r:=Ev .str (fun a b=>decide (a=b)) x y fun _=>hl
theorem diffS_ans(l:ZH)(hl:l.length≤aC):∃r,f180 l=some r:=by
 have hB:=hB
 have key:∀(n a:Nat)(d:List (Zg×Bool)),l.length -a<n→a≤l.length→d.length≤a→∃r,aE (U:=Unit) (tD n (l,(l.length:Int),(a:Int),d)) (fun _=>some true)=some r:=by
  intro n
  induction n with
  |zero=>intro a d h;omega
  |
   succ n ih=>
   intro a d hn ha hd
   unfold tD at ih ⊢
   rw[aP]
   generalize aH _ n=rec at ih ⊢
   dsimp only
   by_cases h:a<l.length
   ·rw[if_pos (decide_eq_true (by omega)),if_pos (Int.natCast_nonneg a),if_pos (show(a:Int)<(l.length:Int) by omega)]
    split
    ·exact⟨_,rfl⟩
    ·rw[if_pos (by omega),aJ (by omega)]
     exact ih (a+1) _ (by omega) (by omega) (Nat.le_trans (dA (kt:=.str)) (by omega))
   ·rw[if_neg (by simp only[decide_eq_true_eq];omega)]
    exact⟨_,rfl⟩
 exact key _ 0 [] (by omega) (by omega) (by simp)
theorem diffI_ans(l:Zf)(hl:l.length≤aC):∃r,f136 l=some r:=by
 have hB:=hB
 have key:∀(n a:Nat)(d:Zn),l.length -a<n→a≤l.length→d.length≤a→∃r,aE (U:=Unit) (tJ n (l,(l.length:Int),(a:Int),d)) (fun _=>some true)=some r:=by
  intro n
  induction n with
  |zero=>intro a d h;omega
  |
   succ n ih=>
   intro a d hn ha hd
   unfold tJ at ih ⊢
   rw[aP]
   generalize aH _ n=rec at ih ⊢
   dsimp only
   by_cases h:a<l.length
   ·rw[if_pos (decide_eq_true (by omega)),if_pos (Int.natCast_nonneg a),if_pos (show(a:Int)<(l.length:Int) by omega)]
    split
    ·exact⟨_,rfl⟩
    ·rw[if_pos (by omega),aJ (by omega)]
     exact ih (a+1) _ (by omega) (by omega) (Nat.le_trans (dA (kt:=.int .i64)) (by omega))
   ·rw[if_neg (by simp only[decide_eq_true_eq];omega)]
    exact⟨_,rfl⟩
 exact key _ 0 [] (by omega) (by omega) (by simp)
abbrev namesOf(t:gI):ZH:=t.2.2.2.2.2.1
theorem kindA_ans(t:gI)(n:Int):∃r,f176 t n=some r:=by
 unfold f176
 refine bindT ?_ fun v=>⟨v,rfl⟩
 repeat' (first|exact⟨_,rfl⟩|split)
theorem kindB_ans(t:gI)(n:Int):∃r,f177 t n=some r:=by
 unfold f177
 refine bindT ?_ fun v=>⟨v,rfl⟩
 repeat' (first|exact⟨_,rfl⟩|split)
theorem kindC_ans(t:gI)(n:Int):∃r,f178 t n=some r:=by
 unfold f178
 refine bindT ?_ fun v=>⟨v,rfl⟩
 repeat' (first|exact⟨_,rfl⟩|split)
theorem kindD_ans(t:gI)(n:Int)(h:(namesOf t).length≤aC):∃r,f179 t n=some r:=by
 unfold f179
 obtain⟨q,hq⟩:=diffS_ans _ h
 refine bindT ?_ fun v=>⟨v,rfl⟩
 rw[hq]
 repeat' (first|exact⟨_,rfl⟩|split)
theorem typeOK_ans(c:cT)(t:gI)(h:(namesOf t).length≤aC):∃r,f79 c t=some r:=by
 unfold f79
 by_cases h1:t.1<1
 ·rw[if_pos (decide_eq_true h1)];exact⟨_,rfl⟩
 ·by_cases h2:(4:Int)<t.1
  ·rw[if_neg (by simpa using h1),decide_eq_true h2];exact⟨_,rfl⟩
  ·rw[if_neg (by simpa using h1),decide_eq_false h2,Option.bind_some,if_neg (by decide),aG]
   dsimp only
   rw[if_pos (by omega),if_pos (by omega),if_neg (by omega)]
   by_cases e1:t.1=1
   ·rw[if_pos e1];exact bindT (kindA_ans _ _) fun v=>⟨v,rfl⟩
   ·rw[if_neg e1]
    by_cases e2:t.1=2
    ·rw[if_pos e2];exact bindT (kindB_ans _ _) fun v=>⟨v,rfl⟩
    ·rw[if_neg e2]
     by_cases e3:t.1=3
     ·rw[if_pos e3];exact bindT (kindC_ans _ _) fun v=>⟨v,rfl⟩
     ·rw[if_neg e3,if_pos (by omega)];exact bindT (kindD_ans _ _ h) fun v=>⟨v,rfl⟩
theorem unitOK_ans(c:cT)(u:fm):∃r,f85 c u=some r:=by
 unfold f85
 refine bindT ?_ fun v=>⟨v,rfl⟩
 by_cases h1:0≤u.2.2.2.1
 ·by_cases h2:u.2.2.2.1<(c.1.2.1.length:Int)
  ·rw[if_pos h1,if_pos h2]
   repeat' (first|exact⟨_,rfl⟩|split)
  ·rw[if_neg (show¬decide (u.2.2.2.1<(List.length c.1.2.1:Int))=true by simpa using h2)]
   repeat' (first|exact⟨_,rfl⟩|split)
 ·rw[if_neg (show¬decide ((0:Int)≤u.2.2.2.1)=true by simpa using h1)]
  repeat' (first|exact⟨_,rfl⟩|split)
def flds(s:cK)(a:Int):ZF:=(nth bB s.2.2.1 a).2.2.2.2.1
structure InF(s:cK)(a b:Int):Prop where
 a0:0≤a
 a1:a<(s.2.2.1.length:Int)
 b0:0≤b
 b1:b<((flds s a).length:Int)
theorem typeOf_eq(c:cT)(a b:Int):(InF c.1 a b∧f78 c a b=some (true,(nth du (flds c.1 a) b).2.1))∨(¬InF c.1 a b∧∃t,f78 c a b=some (false,t)):=by
 unfold f78
 by_cases h1:a<0
 ·rw[if_pos (decide_eq_true h1)]
  exact Or.inr ⟨fun h=>by have:=h.a0;omega,_,rfl⟩
 ·rw[if_neg (by simpa using h1)]
  by_cases h2:(c.1.2.2.1.length:Int)≤a
  ·rw[if_pos (decide_eq_true h2)]
   exact Or.inr ⟨fun h=>by have:=h.a1;omega,_,rfl⟩
  ·rw[if_neg (by simpa using h2)]
   by_cases h3:b<0
   ·rw[if_pos (decide_eq_true h3)]
    exact Or.inr ⟨fun h=>by have:=h.b0;omega,_,rfl⟩
   ·rw[if_neg (by simpa using h3),if_pos (show 0≤a by omega),if_pos (show a<(c.1.2.2.1.length:Int) by omega)]
    by_cases h4:((flds c.1 a).length:Int)≤b
    ·have d4:decide (((flds c.1 a).length:Int)≤b)=true:=decide_eq_true h4
     unfold flds at d4
     rw[d4,Option.bind_some,if_pos rfl]
     exact Or.inr ⟨fun h=>by have:=h.b1;omega,_,rfl⟩
    ·have d4:decide (((flds c.1 a).length:Int)≤b)=false:=decide_eq_false h4
     have h5:b<((flds c.1 a).length:Int):=by omega
     have h6:=h5
     unfold flds at d4 h6
     rw[d4,Option.bind_some,if_neg (by decide),aG]
     dsimp only
     rw[if_pos (show 0≤a by omega),if_pos (show a<(c.1.2.2.1.length:Int) by omega),if_pos (show 0≤b by omega),if_pos h6]
     exact Or.inl ⟨⟨by omega,by omega,by omega,h5⟩,rfl⟩
structure InT(c:ei)(t:fm)(n:Int):Prop where
 v0:0≤t.2.2.1
 v1:t.2.2.1<n
 f:InF c.1.1 (nth aK c.2.1.2.2.1 t.2.2.1).2.2.1 t.2.2.2.1
theorem termType_eq(c:ei)(t:fm){n:Int}(hn:n≤(c.2.1.2.2.1.length:Int)):
 (InT c t n∧f203 c t n=some (true,(nth du (flds c.1.1 (nth aK c.2.1.2.2.1 t.2.2.1).2.2.1) t.2.2.2.1).2.1))∨(¬InT c t n∧∃y,f203 c t n=some (false,y)):=by
 unfold f203
 by_cases h1:t.2.2.1<0
 ·rw[if_pos (decide_eq_true h1)]
  exact Or.inr ⟨fun h=>by have:=h.v0;omega,_,rfl⟩
 ·rw[if_neg (by simpa using h1)]
  by_cases h2:n≤t.2.2.1
  ·rw[decide_eq_true h2,Option.bind_some,if_pos rfl]
   exact Or.inr ⟨fun h=>by have:=h.v1;omega,_,rfl⟩
  ·rw[decide_eq_false h2,Option.bind_some,if_neg (by decide),aG]
   dsimp only
   rw[if_pos (show 0≤t.2.2.1 by omega),if_pos (show t.2.2.1<(c.2.1.2.2.1.length:Int) by omega)]
   rcases typeOf_eq c.1 (nth aK c.2.1.2.2.1 t.2.2.1).2.2.1 t.2.2.2.1 with⟨hi,e⟩|⟨hi,y,e⟩
   ·rw[e]
    exact Or.inl ⟨⟨by omega,by omega,hi⟩,rfl⟩
   ·rw[e]
    exact Or.inr ⟨fun h=>hi h.f,y,rfl⟩
theorem kindA_unit{t:gI}{n:Int}(h:f176 t n=some true):-1≤t.2.2.2.2.1∧t.2.2.2.2.1<n:=by
 unfold f176 at h
 by_cases h1:-1≤t.2.2.2.2.1
 ·by_cases h2:t.2.2.2.2.1<n
  ·exact⟨h1,h2⟩
  ·exfalso
   rw[if_neg (show¬decide (t.2.2.2.2.1<n)=true by simpa using h2)] at h
   repeat' (first|cases h;done|split at h)
 ·exfalso
  rw[if_neg (show¬decide ((-1:Int)≤t.2.2.2.2.1)=true by simpa using h1)] at h
  repeat' (first|cases h;done|split at h)
theorem typeOK_unit{c:cT}{t:gI}(h:f79 c t=some true)(h1:t.1=1):-1≤t.2.2.2.2.1∧t.2.2.2.2.1<(c.1.2.1.length:Int):=by
 unfold f79 at h
 rw[if_neg (show¬decide (t.1<(1:Int))=true by rw[h1];decide),h1,Option.bind_some,if_neg (by decide),aG] at h
 dsimp only at h
 rw[h1,if_pos (by decide),if_pos (by decide),if_neg (by decide),if_pos rfl] at h
 obtain⟨q,hq⟩:=kindA_ans t (c.1.2.1.length:Int)
 rw[hq] at h
 cases h
 exact kindA_unit hq
structure FO(c:ei)(j:Nat):Prop where
 s0:0≤(nth aK c.2.1.2.2.1 (j:Int)).2.2.1
 s1:(nth aK c.2.1.2.2.1 (j:Int)).2.2.1<(c.1.1.2.2.1.length:Int)
 of:(nth aK c.2.1.2.2.1 (j:Int)).2.2.2.1.2.2.1= -1∨InT c (nth aK c.2.1.2.2.1 (j:Int)).2.2.2.1 (j:Int)
theorem fromsL(c:ei)(hl:c.2.1.2.2.1.length≤aC):∀(n i:Nat),c.2.1.2.2.1.length -i<n→i≤c.2.1.2.2.1.length→(∀j<i,FO c j)→
 (aE (U:=Unit) (oQ n (c.2.1.2.2.1,(c.2.1.2.2.1.length:Int),(i:Int),c)) (fun _=>some true)=some true∧∀j<c.2.1.2.2.1.length,FO c j)∨aE (U:=Unit) (oQ n (c.2.1.2.2.1,(c.2.1.2.2.1.length:Int),(i:Int),c)) (fun _=>some true)=some false:=by
 intro n
 have hB:=hB
 induction n with
 |zero=>intro i h;omega
 |
  succ n ih=>
  intro i hn hi hd
  unfold oQ at ih ⊢
  rw[aP]
  generalize aH _ n=rec at ih ⊢
  dsimp only
  by_cases h:i<c.2.1.2.2.1.length
  ·rw[if_pos (
    decide_eq_true (by omega)),if_pos (Int.natCast_nonneg i),if_pos (show(i:Int)<(c.2.1.2.2.1.length:Int) by omega)]
   by_cases h1:(nth aK c.2.1.2.2.1 (i:Int)).2.2.1<0
   ·rw[if_pos (decide_eq_true h1)];exact Or.inr rfl
   ·rw[if_neg (show¬decide ((nth aK c.2.1.2.2.1 (i:Int)).2.2.1<(0:Int))=true by simpa using h1)]
    by_cases h2:(c.1.1.2.2.1.length:Int)≤(nth aK c.2.1.2.2.1 (i:Int)).2.2.1
    ·rw[decide_eq_true h2,Option.bind_some,if_pos rfl];exact Or.inr rfl
    ·rw[decide_eq_false h2,Option.bind_some,if_neg (by decide),aG]
     dsimp only
     rw[aJ (by omega)]
     by_cases h3:(nth aK c.2.1.2.2.1 (i:Int)).2.2.2.1.2.2.1= -1
     ·rw[if_pos (decide_eq_true h3)]
      exact ih (i+1) (by omega) (by omega) fun j hj=>by
       by_cases e:j=i
       ·subst e;exact⟨Int.not_lt.1 h1,Int.not_le.1 h2,Or.inl h3⟩
       ·exact hd j (by omega)
     ·rw[if_neg (show¬decide ((nth aK c.2.1.2.2.1 (i:Int)).2.2.2.1.2.2.1=(-1:Int))=true by simpa using h3)]
      rcases termType_eq c (nth aK c.2.1.2.2.1 (i:Int)).2.2.2.1 (n:=(i:Int)) (by omega) with⟨hit,e⟩|⟨_,y,e⟩
      ·rw[e,Option.bind_some]
       dsimp only
       rw[if_neg (by decide),Option.bind_some]
       split
       ·exact Or.inr rfl
       ·exact ih (i+1) (by omega) (by omega) fun j hj=>by
         by_cases e:j=i
         ·subst e;exact⟨Int.not_lt.1 h1,Int.not_le.1 h2,Or.inr hit⟩
         ·exact hd j (by omega)
      ·rw[e,Option.bind_some]
       dsimp only
       rw[if_pos (by decide),Option.bind_some,if_pos rfl]
       exact Or.inr rfl
  ·rw[if_neg (by simp only[decide_eq_true_eq];omega)]
   exact Or.inl ⟨rfl,fun j hj=>hd j (by omega)⟩
theorem fromsOK_eq(c:ei)(hl:c.2.1.2.2.1.length≤aC):(f133 c=some true∧1≤c.2.1.2.2.1.length∧c.2.1.2.2.1.length≤3∧∀j<c.2.1.2.2.1.length,FO c j)∨f133 c=some false:=by
 unfold f133
 by_cases h1:(c.2.1.2.2.1.length:Int)<1
 ·rw[if_pos (decide_eq_true h1)];exact Or.inr rfl
 ·rw[if_neg (show¬decide ((c.2.1.2.2.1.length:Int)<(1:Int))=true by simpa using h1)]
  by_cases h2:(3:Int)<(c.2.1.2.2.1.length:Int)
  ·rw[decide_eq_true h2,Option.bind_some,if_pos rfl];exact Or.inr rfl
  ·rw[decide_eq_false h2,Option.bind_some,if_neg (by decide),aG]
   rcases fromsL c hl (c.2.1.2.2.1.length+1) 0 (by omega) (by omega) (fun j hj=>by omega) with⟨e,h⟩|e
   ·exact Or.inl ⟨e,by omega,by omega,h⟩
   ·exact Or.inr e
def UO(s:cK):Prop:=∀x∈s.2.2.1,∀f∈x.2.2.2.2.1,f.2.1.1=1→-1≤f.2.1.2.2.2.2.1∧f.2.1.2.2.2.2.1<(s.2.1.length:Int)
def NB(s:cK):Prop:=∀x∈s.2.2.1,x.2.2.2.2.1.length≤aC∧∀f∈x.2.2.2.2.1,(namesOf f.2.1).length≤aC
theorem InF.mem{s:cK}{a b:Int}(h:InF s a b):nth bB s.2.2.1 a∈s.2.2.1∧nth du (flds s a) b∈(nth bB s.2.2.1 a).2.2.2.2.1:=
 ⟨da h.a0 h.a1,da (t:=du) (l:=flds s a) h.b0 h.b1⟩
theorem comparable_ans(c:cT)(a b:gI)(hn:(namesOf a).length≤aC)(ha:a.1=1→-1≤a.2.2.2.2.1∧a.2.2.2.2.1<(c.1.2.1.length:Int))(hb:b.1=1→-1≤b.2.2.2.2.1∧b.2.2.2.2.1<(c.1.2.1.length:Int)):∃r,f205 c a b=some r:=by
 unfold f205
 by_cases h1:a.1=b.1
 ·rw[if_neg (by simp[h1])]
  by_cases h4:a.1=4
  ·rw[if_pos (decide_eq_true h4)]
   obtain⟨q,hq⟩:=equalS_ans (namesOf a) (namesOf b) hn
   unfold namesOf at hq
   rw[hq];exact⟨_,rfl⟩
  ·rw[if_neg (show¬decide (a.1=(4:Int))=true by simpa using h4)]
   by_cases e1:a.1=1
   ·obtain⟨ha1,ha2⟩:=ha e1
    obtain⟨hb1,hb2⟩:=hb (by omega)
    rw[if_neg (by simp[e1])]
    by_cases u1:a.2.2.2.2.1= -1
    ·rw[if_pos (decide_eq_true u1)];exact⟨_,rfl⟩
    ·rw[if_neg (show¬decide (a.2.2.2.2.1=(-1:Int))=true by simpa using u1)]
     by_cases u2:b.2.2.2.2.1= -1
     ·rw[decide_eq_true u2];exact⟨_,rfl⟩
     ·rw[decide_eq_false u2,Option.bind_some,if_neg (by decide),aG]
      dsimp only
      rw[if_pos (by omega),if_pos ha2,if_pos (by omega),if_pos hb2]
      exact⟨_,rfl⟩
   ·rw[if_pos (by simp[e1])];exact⟨_,rfl⟩
 ·rw[if_pos (by simp[h1])];exact⟨_,rfl⟩
def TOK(c:ei)(t:fm):Prop:=InT c t (c.2.1.2.2.1.length:Int)∨t.2.2.1= -1
def tyT(c:ei)(t:fm):gI:=(nth du (flds c.1.1 (nth aK c.2.1.2.2.1 t.2.2.1).2.2.1) t.2.2.2.1).2.1
def GT(s:cK)(y:gI):Prop:=(namesOf y).length≤aC∧(y.1=1→-1≤y.2.2.2.2.1∧y.2.2.2.2.1<(s.2.1.length:Int))
theorem InT.gt{c:ei}{t:fm}{n:Int}(h:InT c t n)(hN:NB c.1.1)(hU:UO c.1.1):GT c.1.1 (tyT c t):=by
 obtain⟨h1,h2⟩:=h.f.mem
 exact⟨(hN _ h1).2 _ h2,hU _ h1 _ h2⟩
theorem isNumber_eq(t:fm):∃r,f204 t=some r∧(r=true→t.2.2.1= -1):=by
 unfold f204
 by_cases h:t.2.2.1= -1
 ·obtain⟨r,hr⟩:∃r,(Option.bind (α:=Bool) (if(decide (t.2.2.1=(-1:Int)))=true then(if(decide ((0:Int)≤t.2.2.2.2.1))=true then(some (decide (t.2.2.2.2.1≤(1048576:Int)))) else(some false)) else(some false)) fun v1=>some v1)=some r:=by
   refine bindT ?_ fun v=>⟨v,rfl⟩
   repeat' (first|exact⟨_,rfl⟩|split)
  exact⟨r,hr,fun _=>h⟩
 ·rw[if_neg (show¬decide (t.2.2.1=(-1:Int))=true by simpa using h)]
  exact⟨false,rfl,fun h=>(by cases h)⟩
theorem setOK_eq(c:ei)(y:gI)(t:fm)(hN:NB c.1.1):∃r,f135 c y t=some r∧(r=true→TOK c t):=by
 unfold f135
 obtain⟨b,hb,hbm⟩:=isNumber_eq t
 rw[hb,Option.bind_some]
 cases b with
 |
  true=>
  rw[if_pos rfl]
  obtain⟨r,hr⟩:∃r,(Option.bind (α:=Bool) (if(decide (y.2.1≤t.2.2.2.2.1))=true then(some (decide (t.2.2.2.2.1≤y.2.2.1))) else(some false)) fun v2=>some v2)=some r:=by
   refine bindT ?_ fun v=>⟨v,rfl⟩
   repeat' (first|exact⟨_,rfl⟩|split)
  exact⟨r,hr,fun _=>Or.inr (hbm rfl)⟩
 |
  false=>
  rw[if_neg (by decide)]
  rcases termType_eq c t (n:=(c.2.1.2.2.1.length:Int)) (Int.le_refl _) with⟨hi,e⟩|⟨_,z,e⟩
  ·rw[e,Option.bind_some]
   dsimp only
   have h1:=hi.f.mem
   obtain⟨q,hq⟩:=equalS_ans (namesOf (tyT c t)) (namesOf y) ((hN _ h1.1).2 _ h1.2)
   unfold namesOf tyT at hq
   have key:∀x:Zk,(∃r,x=some r)→∃r,x=some r∧(r=true→TOK c t):=fun x ⟨r,hr⟩=>⟨r,hr,fun _=>Or.inl hi⟩
   apply key
   refine bindT ?_ fun v=>⟨v,rfl⟩
   rw[if_pos rfl]
   simp only[hq,Option.bind_some]
   repeat' (first|exact⟨_,rfl⟩|split)
  ·rw[e,Option.bind_some]
   exact⟨false,rfl,fun h=>(by cases h)⟩
theorem atoml5(c:ei)(a:mJ)(hN:NB c.1.1)(hU:UO c.1.1)(e:Zq)(he:e.length≤1000):∀(n i:Nat)(g:List gI),e.length -i<n→i≤e.length→g.length≤i→(∀y∈g,GT c.1.1 y)→(∀j(hj:j<e.length),j<i→TOK c e[j])→
 (∃g',kF n ((e.length:Int),(i:Int),c,a,e,g)=some (.brk (c,a,g'))∧g'.length≤e.length∧(∀y∈g',GT c.1.1 y)∧∀t∈e,TOK c t)∨kF n ((e.length:Int),(i:Int),c,a,e,g)=some (.ret false):=by
 intro n
 have hB:=hB
 induction n with
 |zero=>intro i g h;omega
 |
  succ n ih=>
  intro i g hn hi hgl hg hd
  unfold kF at ih ⊢
  rw[aP]
  generalize aH _ n=rec at ih ⊢
  dsimp only
  by_cases h:i<e.length
  ·rw[if_pos (decide_eq_true (by omega)),if_pos (Int.natCast_nonneg i),if_pos (show(i:Int)<(e.length:Int) by omega),db (t:=aO) h,aJ (by omega)]
   rcases termType_eq c e[i] (n:=(c.2.1.2.2.1.length:Int)) (Int.le_refl _) with⟨hit,e1⟩|⟨_,y,e1⟩
   ·rw[e1,Option.bind_some]
    dsimp only
    rw[if_neg (by decide),Option.bind_some,if_neg (by decide),if_pos rfl,if_pos (show(g.length+List.length [_])*72≤aC by rw[List.length_singleton];omega)]
    exact ih (i+1) _ (by omega) (by omega) (by rw[List.length_append,List.length_singleton];omega) (fun z hz=>by
     rcases List.mem_append.1 hz with hz|hz
     ·exact hg z hz
     ·rw[List.mem_singleton] at hz
      subst hz
      exact hit.gt hN hU) fun j hj hji=>by
     by_cases ej:j=i
     ·subst ej;exact Or.inl hit
     ·exact hd j hj (by omega)
   ·rw[e1,Option.bind_some]
    dsimp only
    obtain⟨b,hb,hbm⟩:=isNumber_eq e[i]
    rw[if_pos (by decide),hb,Option.bind_some,Option.bind_some]
    cases b with
    |false=>rw[if_pos (by decide)];exact Or.inr rfl
    |
     true=>
     rw[if_neg (by decide),if_neg (by decide)]
     exact ih (i+1) g (by omega) (by omega) (by omega) hg fun j hj hji=>by
      by_cases ej:j=i
      ·subst ej;exact Or.inr (hbm rfl)
      ·exact hd j hj (by omega)
  ·rw[if_neg (by simp only[decide_eq_true_eq];omega)]
   refine Or.inl ⟨g,rfl,by omega,hg,fun t ht=>?_⟩
   obtain⟨j,hj,rfl⟩:=List.getElem_of_mem ht
   exact hd j hj (by omega)
theorem atoml16(a:mJ)(g:List gI)(hg:g.length≤1000):∀(n i:Nat),g.length -i<n→i≤g.length→∃r,aE (U:=Unit) (jX n ((g.length:Int),(i:Int),a,g)) (fun _=>some true)=some r:=by
 intro n
 induction n with
 |zero=>intro i h;omega
 |
  succ n ih=>
  intro i hn hi
  unfold jX at ih ⊢
  rw[aP]
  generalize aH _ n=rec at ih ⊢
  dsimp only
  by_cases h:i<g.length
  ·rw[if_pos (decide_eq_true (by omega)),if_pos (Int.natCast_nonneg i),if_pos (show(i:Int)<(g.length:Int) by omega),aJ (by omega)]
   have key:∀v:Bool,∃r,aE (U:=Unit) (Option.bind (α:=Bool) (if(decide (a.1=(2:Int)))=true then(some (!v)) else(if(decide (a.1=(3:Int)))=true then(some (!v)) else(some false))) fun v16=>if v16=true then(bP (some false)) else(rec ((g.length:Int),((i+1:Nat):Int),a,g))) (fun _=>some true)=some r:=by
    intro v
    have h2:∀w:Bool,∃r,aE (U:=Unit) (if w=true then(bP (some false)) else(rec ((g.length:Int),((i+1:Nat):Int),a,g))) (fun _=>some true)=some r:=fun w=>by
     cases w with
     |true=>exact⟨_,rfl⟩
     |false=>exact ih (i+1) (by omega) (by omega)
    split
    ·exact h2 (!v)
    ·split
     ·exact h2 (!v)
     ·exact h2 false
   split
   ·exact key _
   ·exact key _
  ·rw[if_neg (by simp only[decide_eq_true_eq];omega)]
   exact⟨_,rfl⟩
theorem atomOK_eq(c:ei)(a:mJ)(hN:NB c.1.1)(hU:UO c.1.1):∃r,f134 c a=some r∧(r=true→TOK c a.2.1∧TOK c a.2.2.1):=by
 have hB:=hB
 unfold f134
 by_cases h1:a.1<1
 ·rw[if_pos (decide_eq_true h1)];exact⟨_,rfl,fun h=>(by cases h)⟩
 ·rw[if_neg (show¬decide (a.1<(1:Int))=true by simpa using h1)]
  by_cases h2:(4:Int)<a.1
  ·rw[decide_eq_true h2];exact⟨_,rfl,fun h=>(by cases h)⟩
  ·rw[decide_eq_false h2,Option.bind_some,if_neg (by decide),aG]
   dsimp only
   rcases atoml5 c a hN hU [a.2.1,a.2.2.1] (by simp) 3 0 [] (by simp) (by simp) (by simp) (fun y hy=>(by cases hy)) (fun j hj h=>by omega) with⟨g,e,hgl,hg,ht⟩|e
   ·have e':kF (Int.toNat (List.length [a.2.1,a.2.2.1]:Int)+1) ((List.length [a.2.1,a.2.2.1]:Int),(0:Int),c,a,[a.2.1,a.2.2.1],([]:List gI))=some (.brk (c,a,g)):=e
    rw[e',aG]
    dsimp only
    have hgl2:g.length≤2:=hgl
    have key:∀x:Zk,(∃r,x=some r)→∃r,x=some r∧(r=true→TOK c a.2.1∧TOK c a.2.2.1):=fun x ⟨r,hr⟩=>⟨r,hr,fun _=>⟨ht _ (by simp),ht _ (by simp)⟩⟩
    apply key
    have h16:∃r,aE (U:=Unit) (jX (Int.toNat (List.length g:Int)+1) ((List.length g:Int),(0:Int),a,g)) (fun _=>some true)=some r:=atoml16 a g (by omega) _ 0 (by omega) (by omega)
    have h3:∀v:Bool,∃r,aE (U:=mJ×List gI) (if v=true then(bP (some false)) else(some (.brk (a,g)))) (fun u=>match u with|⟨x,f⟩=>aE (U:=Unit) (jX (Int.toNat (List.length f:Int)+1) ((List.length f:Int),(0:Int),x,f)) fun _=>some true)=some r:=fun v=>by
     cases v with
     |true=>exact⟨_,rfl⟩
     |false=>exact h16
    by_cases g0:(g.length:Int)=0
    ·rw[if_pos (decide_eq_true g0)]
     exact h3 true
    ·rw[if_neg (show¬decide ((g.length:Int)=(0:Int))=true by simpa using g0)]
     by_cases g2:(g.length:Int)=2
     ·rw[if_pos (decide_eq_true g2),if_pos (by omega),if_pos (by omega)]
      have m0:=hg _ (da (t:=jP) (l:=g) (a:=0) (by omega) (by omega))
      have m1:=hg _ (da (t:=jP) (l:=g) (a:=1) (by omega) (by omega))
      obtain⟨q,hq⟩:=comparable_ans c.1 (nth jP g (0:Int)) (nth jP g (1:Int)) m0.1 m0.2 m1.2
      rw[hq]
      exact h3 _
     ·rw[if_neg (show¬decide ((g.length:Int)=(2:Int))=true by simpa using g2)]
      exact h3 false
   ·have e':kF (Int.toNat (List.length [a.2.1,a.2.2.1]:Int)+1) ((List.length [a.2.1,a.2.2.1]:Int),(0:Int),c,a,[a.2.1,a.2.2.1],([]:List gI))=some (.ret false):=e
    rw[e',dM]
    exact⟨_,rfl,fun h=>(by cases h)⟩
structure RK(c:ei):Prop where
 n1:1≤c.2.1.2.2.1.length
 n3:c.2.1.2.2.1.length≤3
 fo:∀j<c.2.1.2.2.1.length,FO c j
 wh:∀a∈c.2.1.2.2.2.1,TOK c a.2.1∧TOK c a.2.2.1
 h0:0≤c.2.1.2.1
 h1:c.2.1.2.1<(c.1.1.2.2.1.length:Int)
 st:∀s∈c.2.1.2.2.2.2.1,InF c.1.1 c.2.1.2.1 s.2.1∧TOK c s.2.2.1
theorem rulel4(c:ei)(hN:NB c.1.1)(hU:UO c.1.1)(l:Zx)(hl:l.length≤aC):∀(n i:Nat),l.length -i<n→i≤l.length→(∀j(hj:j<l.length),j<i→TOK c l[j].2.1∧TOK c l[j].2.2.1)→
 (nc n (l,(l.length:Int),(i:Int),c)=some (.brk c)∧∀a∈l,TOK c a.2.1∧TOK c a.2.2.1)∨nc n (l,(l.length:Int),(i:Int),c)=some (.ret false):=by
 intro n
 have hB:=hB
 induction n with
 |zero=>intro i h;omega
 |
  succ n ih=>
  intro i hn hi hd
  unfold nc at ih ⊢
  rw[aP]
  generalize aH _ n=rec at ih ⊢
  dsimp only
  by_cases h:i<l.length
  ·obtain⟨r,hr,hm⟩:=atomOK_eq c l[i] hN hU
   rw[if_pos (decide_eq_true (by omega)),if_pos (Int.natCast_nonneg i),if_pos (show(i:Int)<(l.length:Int) by omega),db (t:=aM) h,aJ (by omega),hr,Option.bind_some]
   cases r with
   |false=>rw[if_pos (by decide)];exact Or.inr rfl
   |
    true=>
    rw[if_neg (by decide)]
    exact ih (i+1) (by omega) (by omega) fun j hj hji=>by
     by_cases ej:j=i
     ·subst ej;exact hm rfl
     ·exact hd j hj (by omega)
  ·rw[if_neg (by simp only[decide_eq_true_eq];omega)]
   refine Or.inl ⟨rfl,fun t ht=>?_⟩
   obtain⟨j,hj,rfl⟩:=List.getElem_of_mem ht
   exact hd j hj (by omega)
theorem rulel14(c:ei)(hN:NB c.1.1)(h0:Int)(l:Zy)(hl:l.length*80≤aC):∀(n i:Nat)(g:Zf),l.length -i<n→i≤l.length→g.length≤i→(∀j(hj:j<l.length),j<i→InF c.1.1 h0 l[j].2.1∧TOK c l[j].2.2.1)→
 (∃g',kG n (h0,l,(l.length:Int),(i:Int),c,g)=some (.brk g')∧g'.length≤l.length∧∀s∈l,InF c.1.1 h0 s.2.1∧TOK c s.2.2.1)∨kG n (h0,l,(l.length:Int),(i:Int),c,g)=some (.ret false):=by
 intro n
 have hB:=hB
 induction n with
 |zero=>intro i g h;omega
 |
  succ n ih=>
  intro i g hn hi hgl hd
  unfold kG at ih ⊢
  rw[aP]
  generalize aH _ n=rec at ih ⊢
  dsimp only
  by_cases h:i<l.length
  ·rw[if_pos (decide_eq_true (by omega)),if_pos (Int.natCast_nonneg i),if_pos (show(i:Int)<(l.length:Int) by omega),db (t:=aW) h,aJ (by omega)]
   rcases typeOf_eq c.1 h0 l[i].2.1 with⟨hit,e1⟩|⟨_,y,e1⟩
   ·rw[e1,Option.bind_some]
    dsimp only
    rw[if_neg (by decide)]
    by_cases hz:l[i].2.1=0
    ·rw[if_pos (decide_eq_true hz),Option.bind_some,if_pos rfl];exact Or.inr rfl
    ·obtain⟨r,hr,hm⟩:=setOK_eq c (nth du (flds c.1.1 h0) l[i].2.1).2.1 l[i].2.2.1 hN
     rw[if_neg (show¬decide (l[i].2.1=(0:Int))=true by simpa using hz),hr,Option.bind_some,Option.bind_some]
     cases r with
     |false=>rw[if_pos (by decide)];exact Or.inr rfl
     |
      true=>
      rw[if_neg (by decide),if_pos (show(g.length+List.length [_])*8≤aC by rw[List.length_singleton];omega)]
      exact ih (i+1) _ (by omega) (by omega) (by rw[List.length_append,List.length_singleton];omega) fun j hj hji=>by
       by_cases ej:j=i
       ·subst ej;exact⟨hit,hm rfl⟩
       ·exact hd j hj (by omega)
   ·rw[e1,Option.bind_some]
    dsimp only
    rw[if_pos (by decide),Option.bind_some,if_pos rfl];exact Or.inr rfl
  ·rw[if_neg (by simp only[decide_eq_true_eq];omega)]
   refine Or.inl ⟨g,rfl,by omega,fun t ht=>?_⟩
   obtain⟨j,hj,rfl⟩:=List.getElem_of_mem ht
   exact hd j hj (by omega)
theorem ruleOK_eq(c:ei)(hN:NB c.1.1)(hU:UO c.1.1)(hf:c.2.1.2.2.1.length≤aC)(hw:c.2.1.2.2.2.1.length≤aC)(hs:c.2.1.2.2.2.2.1.length*80≤aC):∃r,f83 c=some r∧(r=true→RK c):=by
 have hB:=hB
 have no:∀x:Zk,x=some false→∃r,x=some r∧(r=true→RK c):=fun x hx=>⟨false,hx,fun h=>(by cases h)⟩
 unfold f83
 rcases fromsOK_eq c hf with⟨e,h1,h3,hfo⟩|e
 ·rw[e,Option.bind_some,if_neg (by decide)]
  by_cases h8:(8:Int)<(c.2.1.2.2.2.1.length:Int)
  ·rw[decide_eq_true h8];exact no _ rfl
  ·rw[decide_eq_false h8,Option.bind_some,if_neg (by decide),aG]
   rcases rulel4 c hN hU c.2.1.2.2.2.1 hw (c.2.1.2.2.2.1.length+1) 0 (by omega) (by omega) (fun j hj h=>by omega) with⟨e4,hwh⟩|e4
   ·have e4':nc (Int.toNat (List.length c.2.1.2.2.2.1:Int)+1) (c.2.1.2.2.2.1,(List.length c.2.1.2.2.2.1:Int),(0:Int),c)=some (.brk c):=e4
    rw[e4',aG]
    by_cases d1:c.2.1.2.1<0
    ·rw[if_pos (decide_eq_true d1)];exact no _ rfl
    ·rw[if_neg (show¬decide (c.2.1.2.1<(0:Int))=true by simpa using d1)]
     by_cases d2:(c.1.1.2.2.1.length:Int)≤c.2.1.2.1
     ·rw[if_pos (decide_eq_true d2)];exact no _ rfl
     ·rw[if_neg (show¬decide ((c.1.1.2.2.1.length:Int)≤c.2.1.2.1)=true by simpa using d2),if_pos (Int.not_lt.1 d1),if_pos (Int.not_le.1 d2),Option.bind_some]
      split
      ·exact no _ rfl
      ·rw[aG]
       dsimp only
       rcases rulel14 c hN c.2.1.2.1 c.2.1.2.2.2.2.1 hs (c.2.1.2.2.2.2.1.length+1) 0 [] (by omega) (by omega) (by simp) (fun j hj h=>by omega) with⟨g,e14,hgl,hst⟩|e14
       ·have e14':kG (Int.toNat (List.length c.2.1.2.2.2.2.1:Int)+1) (c.2.1.2.1,c.2.1.2.2.2.2.1,(List.length c.2.1.2.2.2.2.1:Int),(0:Int),c,([]:Zf))=some (.brk g):=e14
        rw[e14',aG]
        obtain⟨q,hq⟩:=diffI_ans g (by omega)
        rw[hq]
        exact⟨q,rfl,fun _=>⟨h1,h3,hfo,hwh,Int.not_lt.1 d1,Int.not_le.1 d2,hst⟩⟩
       ·have e14':kG (Int.toNat (List.length c.2.1.2.2.2.2.1:Int)+1) (c.2.1.2.1,c.2.1.2.2.2.2.1,(List.length c.2.1.2.2.2.2.1:Int),(0:Int),c,([]:Zf))=some (.ret false):=e14
        rw[e14',dM];exact no _ rfl
   ·have e4':nc (Int.toNat (List.length c.2.1.2.2.2.1:Int)+1) (c.2.1.2.2.2.1,(List.length c.2.1.2.2.2.1:Int),(0:Int),c)=some (.ret false):=e4
    rw[e4',dM];exact no _ rfl
 ·rw[e,Option.bind_some,if_pos (by decide)];exact no _ rfl
theorem schemal9(x:ZF)(a b:Int)(w:SE)(c:cT):∀(n i:Nat),4 -i<n→i≤4→mZ n (x,a,b,w,(i:Int),c)=some (.brk (x,a,b,c))∨mZ n (x,a,b,w,(i:Int),c)=some (.ret (.ret false)):=by
 intro n
 induction n with
 |zero=>intro i h;omega
 |
  succ n ih=>
  intro i hn hi
  unfold mZ at ih ⊢
  rw[aP]
  generalize aH _ n=rec at ih ⊢
  dsimp only
  by_cases h:i<4
  ·rw[if_pos (decide_eq_true (by omega)),if_pos (Int.natCast_nonneg i),if_pos (show(i:Int)<4 by omega),aJ (by omega)]
   have h2:∀v:Bool,(if v=true then(bP (bP (some false))) else(rec (x,a,b,w,((i+1:Nat):Int),c)))=some (.brk (x,a,b,c))∨(if v=true then(bP (bP (some false))) else(rec (x,a,b,w,((i+1:Nat):Int),c)))=some (.ret (.ret false)):=fun v=>by
    cases v with
    |true=>exact Or.inr rfl
    |false=>exact ih (i+1) (by omega) (by omega)
   split
   ·exact h2 true
   ·exact h2 _
  ·rw[if_neg (by simp only[decide_eq_true_eq];omega)]
   exact Or.inl rfl
theorem schemal4(c:cT)(l:ZF)(hl:l.length≤aC)(hn:∀f∈l,(namesOf f.2.1).length≤aC):∀(n i:Nat),l.length -i<n→i≤l.length→(∀j(hj:j<l.length),j<i→f79 c l[j].2.1=some true)→
 (aE (U:=Unit) (tE n (l,(l.length:Int),(i:Int),c)) (fun _=>some true)=some true∧∀f∈l,f79 c f.2.1=some true)∨aE (U:=Unit) (tE n (l,(l.length:Int),(i:Int),c)) (fun _=>some true)=some false:=by
 intro n
 have hB:=hB
 induction n with
 |zero=>intro i h;omega
 |
  succ n ih=>
  intro i hn' hi hd
  unfold tE at ih ⊢
  rw[aP]
  generalize aH _ n=rec at ih ⊢
  dsimp only
  by_cases h:i<l.length
  ·obtain⟨r,hr⟩:=typeOK_ans c l[i].2.1 (hn _ (List.getElem_mem h))
   rw[if_pos (decide_eq_true (by omega)),if_pos (Int.natCast_nonneg i),if_pos (show(i:Int)<(l.length:Int) by omega),db (t:=du) h,hr,Option.bind_some]
   cases r with
   |false=>rw[if_pos (by decide)];exact Or.inr rfl
   |
    true=>
    rw[if_neg (by decide)]
    have e9:=schemal9 l (l.length:Int) (i:Int) l[i].2.2.1 c (Int.toNat (4:Int)+1) 0 (by decide) (by decide)
    rcases e9 with e9|e9
    ·have e9':mZ (Int.toNat (4:Int)+1) (l,(l.length:Int),(i:Int),l[i].2.2.1,(0:Int),c)=some (.brk (l,(l.length:Int),(i:Int),c)):=e9
     rw[e9',aG]
     dsimp only
     rw[aJ (by omega)]
     exact ih (i+1) (by omega) (by omega) fun j hj hji=>by
      by_cases ej:j=i
      ·subst ej;exact hr
      ·exact hd j hj (by omega)
    ·have e9':mZ (Int.toNat (4:Int)+1) (l,(l.length:Int),(i:Int),l[i].2.2.1,(0:Int),c)=some (.ret (.ret false)):=e9
     rw[e9',dM]
     exact Or.inr rfl
  ·rw[if_neg (by simp only[decide_eq_true_eq];omega)]
   refine Or.inl ⟨rfl,fun t ht=>?_⟩
   obtain⟨j,hj,rfl⟩:=List.getElem_of_mem ht
   exact hd j hj (by omega)
theorem schemaOK_eq(c:cT)(x:jt)(hl:x.2.2.2.2.1.length≤aC)(hn:∀f∈x.2.2.2.2.1,(namesOf f.2.1).length≤aC):∃r,f87 c x=some r∧(r=true→1≤x.2.2.2.2.1.length∧∀f∈x.2.2.2.2.1,f79 c f.2.1=some true):=by
 have no:∀y:Zk,y=some false→∃r,y=some r∧(r=true→1≤x.2.2.2.2.1.length∧∀f∈x.2.2.2.2.1,f79 c f.2.1=some true):=fun y hy=>⟨false,hy,fun h=>(by cases h)⟩
 unfold f87
 by_cases h1:x.2.2.1<0
 ·rw[if_pos (decide_eq_true h1)];exact no _ rfl
 ·rw[if_neg (
   show¬decide (x.2.2.1<(0:Int))=true by simpa using h1)]
  by_cases h2:(c.1.1.length:Int)≤x.2.2.1
  ·rw[if_pos (decide_eq_true h2)];exact no _ rfl
  ·rw[if_neg (show¬decide ((c.1.1.length:Int)≤x.2.2.1)=true by simpa using h2)]
   by_cases h3:x.2.2.2.1<1
   ·rw[if_pos (decide_eq_true h3)];exact no _ rfl
   ·rw[if_neg (show¬decide (x.2.2.2.1<(1:Int))=true by simpa using h3)]
    by_cases h4:(255:Int)<x.2.2.2.1
    ·rw[if_pos (decide_eq_true h4)];exact no _ rfl
    ·rw[if_neg (show¬decide ((255:Int)<x.2.2.2.1)=true by simpa using h4)]
     by_cases h5:(x.2.2.2.2.1.length:Int)<1
     ·rw[if_pos (decide_eq_true h5)];exact no _ rfl
     ·rw[if_neg (show¬decide ((x.2.2.2.2.1.length:Int)<(1:Int))=true by simpa using h5)]
      by_cases h6:(12:Int)<(x.2.2.2.2.1.length:Int)
      ·rw[if_pos (decide_eq_true h6)];exact no _ rfl
      ·rw[if_neg (show¬decide ((12:Int)<(x.2.2.2.2.1.length:Int))=true by simpa using h6),if_pos (show(0:Int)<(x.2.2.2.2.1.length:Int) by omega),Option.bind_some]
       split
       ·exact no _ rfl
       ·rw[aG]
        dsimp only
        rcases schemal4 c x.2.2.2.2.1 hl hn (x.2.2.2.2.1.length+1) 0 (by omega) (by omega) (fun j hj h=>by omega) with⟨e,h⟩|e
        ·exact⟨true,e,fun _=>⟨by omega,h⟩⟩
        ·exact no _ e
theorem purposeOK_ans(c:cT)(p:kY)(hp:p.2.1.length≤aC):∃r,f90 c p=some r:=by
 have hB:=hB
 have key:∀(n i:Nat),p.2.1.length -i<n→i≤p.2.1.length→nf n (p.2.1,(p.2.1.length:Int),(i:Int),c,p)=some (.brk p)∨nf n (p.2.1,(p.2.1.length:Int),(i:Int),c,p)=some (.ret false):=by
  intro n
  induction n with
  |zero=>intro i h;omega
  |
   succ n ih=>
   intro i hn hi
   unfold nf at ih ⊢
   rw[aP]
   generalize aH _ n=rec at ih ⊢
   dsimp only
   by_cases h:i<p.2.1.length
   ·rw[if_pos (decide_eq_true (by omega)),if_pos (Int.natCast_nonneg i),if_pos (show(i:Int)<(p.2.1.length:Int) by omega),aJ (by omega)]
    rcases typeOf_eq c (nth dz p.2.1 (i:Int)).2.2.1 (nth dz p.2.1 (i:Int)).2.2.2.1 with⟨_,e1⟩|⟨_,y,e1⟩
    ·rw[e1,Option.bind_some]
     dsimp only
     rw[if_neg (by decide)]
     exact ih (i+1) (by omega) (by omega)
    ·rw[e1,Option.bind_some]
     exact Or.inr rfl
   ·rw[if_neg (by simp only[decide_eq_true_eq];omega)]
    exact Or.inl rfl
 unfold f90
 have e:=key (Int.toNat (List.length p.2.1:Int)+1) 0 (by omega) (by omega)
 rcases e with e|e
 ·have e':nf (Int.toNat (List.length p.2.1:Int)+1) (p.2.1,(List.length p.2.1:Int),(0:Int),c,p)=some (.brk p):=e
  rw[e',aG]
  refine bindT ?_ fun v=>⟨v,rfl⟩
  repeat' (first|exact⟨_,rfl⟩|split)
 ·have e':nf (Int.toNat (List.length p.2.1:Int)+1) (p.2.1,(List.length p.2.1:Int),(0:Int),c,p)=some (.ret false):=e
  rw[e',dM]
  exact⟨_,rfl⟩
structure SW(s:cK):Prop where
 units:s.2.1.length≤aC
 schemas:s.2.2.1.length≤aC
 rules:s.2.2.2.1.length≤aC
 purposes:s.2.2.2.2.2.1.length≤aC
 nb:NB s
 rl:∀r∈s.2.2.2.1,r.2.2.1.length≤aC∧r.2.2.2.1.length≤aC∧r.2.2.2.2.1.length*80≤aC
 may:∀p∈s.2.2.2.2.2.1,p.2.1.length≤aC
structure TG(s:cK):Prop where
 many:s.2.2.1.length≤16
 fields:∀x∈s.2.2.1,1≤x.2.2.2.2.1.length
 ok:∀x∈s.2.2.1,∀f∈x.2.2.2.2.1,f79 (s,()) f.2.1=some true
 units:UO s
 rules:∀r∈s.2.2.2.1,RK ((s,()),(r,()))
theorem limited_eq(s:cK)(h:s.2.2.2.2.2.1.length≤aC):∃r,f81 (s,())=some r∧(r=true→s.2.2.1.length≤16):=by
 have no:∀y:Zk,y=some false→∃r,y=some r∧(r=true→s.2.2.1.length≤16):=fun y hy=>⟨false,hy,fun h=>(by cases h)⟩
 unfold f81
 obtain⟨i,hi,_⟩:=OH cQ f132 s.2.2.2.2.2.1 (fun p=>decide ((64:Int)<(p.2.1.length:Int))) (fun x _=>rfl) h
 have e1:oP s.2.2.2.2.2.1=some (decide ((0:Int)≤i)):=by
  unfold oP
  have:tx s.2.2.2.2.2.1=some i:=hi
  rw[this];rfl
 dsimp only
 by_cases h1:(8:Int)<(s.1.length:Int)
 ·rw[if_pos (decide_eq_true h1)];exact no _ rfl
 ·rw[if_neg (show¬decide ((8:Int)<(s.1.length:Int))=true by simpa using h1)]
  by_cases h2:(64:Int)<(s.2.1.length:Int)
  ·rw[if_pos (decide_eq_true h2)];exact no _ rfl
  ·rw[if_neg (show¬decide ((64:Int)<(s.2.1.length:Int))=true by simpa using h2)]
   by_cases h3:(16:Int)<(s.2.2.1.length:Int)
   ·rw[if_pos (decide_eq_true h3)];exact no _ rfl
   ·rw[if_neg (show¬decide ((16:Int)<(s.2.2.1.length:Int))=true by simpa using h3)]
    have yes:∀y:Zk,(∃r,y=some r)→∃r,y=some r∧(r=true→s.2.2.1.length≤16):=fun y ⟨r,hr⟩=>⟨r,hr,fun _=>by omega⟩
    apply yes
    refine bindT ?_ fun v=>?_
    ·repeat' (first|exact⟨_,rfl⟩|split)
    ·cases v with
     |true=>exact⟨_,rfl⟩
     |false=>rw[if_neg (by decide),e1];exact⟨_,rfl⟩
theorem allUnit_ans(s:cK)(h:s.2.1.length≤aC):∃r,tC s.2.1 (s,())=some r:=by
 have hp:∀x∈s.2.1,l4 x (s,())=some (!((f85 (s,()) x).getD false),(s,())):=fun x _=>by
  obtain⟨r,hr⟩:=unitOK_ans (s,()) x
  unfold l4
  rw[hr];rfl
 obtain⟨i,hi,_⟩:=ET aO l4 s.2.1 (s,()) _ hp h
 have e:tz s.2.1 (s,())=some (i,(s,())):=hi
 unfold tC tA
 rw[e];exact⟨_,rfl⟩
theorem allSchema_eq(s:cK)(hs:SW s):∃r,tH s.2.2.1 (s,())=some r∧(r=true→∀x∈s.2.2.1,1≤x.2.2.2.2.1.length∧∀f∈x.2.2.2.2.1,f79 (s,()) f.2.1=some true):=by
 have hp:∀x∈s.2.2.1,l5 x (s,())=some (!((f87 (s,()) x).getD false),(s,())):=fun x hx=>by
  obtain⟨r,hr,_⟩:=schemaOK_eq (s,()) x (hs.nb x hx).1 (hs.nb x hx).2
  unfold l5
  rw[hr];rfl
 obtain⟨i,hi,him⟩:=ET bB l5 s.2.2.1 (s,()) _ hp hs.schemas
 have e:tF s.2.2.1 (s,())=some (i,(s,())):=hi
 unfold tH tG
 rw[e]
 refine⟨_,rfl,fun hr x hx=>?_⟩
 obtain⟨r,hr2,hm⟩:=schemaOK_eq (s,()) x (hs.nb x hx).1 (hs.nb x hx).2
 cases r with
 |true=>exact hm rfl
 |
  false=>
  have:0≤i:=him.2 ⟨x,hx,by rw[hr2];rfl⟩
  simp[this] at hr
theorem allRule_eq(s:cK)(hs:SW s)(hU:UO s):∃r,tM s.2.2.2.1 (s,())=some r∧(r=true→∀x∈s.2.2.2.1,RK ((s,()),(x,()))):=by
 have hk:=fun x(hx:x∈s.2.2.2.1)=>ruleOK_eq ((s,()),(x,())) hs.nb hU (hs.rl x hx).1 (hs.rl x hx).2.1 (hs.rl x hx).2.2
 have hp:∀x∈s.2.2.2.1,l6 x (s,())=some (!((f83 ((s,()),(x,()))).getD false),(s,())):=fun x hx=>by
  obtain⟨r,hr,_⟩:=hk x hx
  unfold l6 xT
  rw[hr];rfl
 obtain⟨i,hi,him⟩:=ET bu l6 s.2.2.2.1 (s,()) _ hp hs.rules
 have e:tK s.2.2.2.1 (s,())=some (i,(s,())):=hi
 unfold tM tL
 rw[e]
 refine⟨_,rfl,fun hr x hx=>?_⟩
 obtain⟨r,hr2,hm⟩:=hk x hx
 cases r with
 |true=>exact hm rfl
 |
  false=>
  have:0≤i:=him.2 ⟨x,hx,by rw[hr2];rfl⟩
  simp[this] at hr
theorem allPurpose_ans(s:cK)(hs:SW s):∃r,tQ s.2.2.2.2.2.1 (s,())=some r:=by
 have hp:∀x∈s.2.2.2.2.2.1,l7 x (s,())=some (!((f90 (s,()) x).getD false),(s,())):=fun x hx=>by
  obtain⟨r,hr⟩:=purposeOK_ans (s,()) x (hs.may x hx)
  unfold l7
  rw[hr];rfl
 obtain⟨i,hi,_⟩:=ET cQ l7 s.2.2.2.2.2.1 (s,()) _ hp hs.purposes
 have e:tN s.2.2.2.2.2.1 (s,())=some (i,(s,())):=hi
 unfold tQ tO
 rw[e];exact⟨_,rfl⟩
theorem tcheck_eq(s:cK)(hs:SW s):∃r,f57 s=some r∧(r=0→TG s):=by
 have no:∀(y:ZM)(z:Int),z≠0→y=some z→∃r,y=some r∧(r=0→TG s):=fun y z hz hy=>⟨z,hy,fun h=>absurd h hz⟩
 unfold f57
 obtain⟨b,hb,hbm⟩:=limited_eq s hs.purposes
 rw[hb,Option.bind_some]
 cases b with
 |false=>rw[if_pos (by decide)];exact no _ 2 (by decide) rfl
 |
  true=>
  rw[if_neg (by decide)]
  obtain⟨b1,hb1⟩:=allUnit_ans s hs.units
  rw[hb1,Option.bind_some]
  cases b1 with
  |false=>exact no _ 120 (by decide) rfl
  |
   true=>
   rw[if_neg (by decide)]
   obtain⟨b2,hb2,hm2⟩:=allSchema_eq s hs
   rw[hb2,Option.bind_some]
   cases b2 with
   |false=>exact no _ 120 (by decide) rfl
   |
    true=>
    rw[if_neg (by decide)]
    have hU:UO s:=fun x hx f hf h1=>typeOK_unit ((hm2 rfl x hx).2 f hf) h1
    obtain⟨b3,hb3,hm3⟩:=allRule_eq s hs hU
    rw[hb3,Option.bind_some]
    cases b3 with
    |false=>exact no _ 120 (by decide) rfl
    |
     true=>
     rw[if_neg (by decide)]
     obtain⟨b4,hb4⟩:=allPurpose_ans s hs
     rw[hb4,Option.bind_some,Option.bind_some]
     cases b4 with
     |false=>exact no _ 120 (by decide) rfl
     |true=>exact⟨0,rfl,fun _=>⟨hbm rfl,fun x hx=>(hm2 rfl x hx).1,fun x hx=>(hm2 rfl x hx).2,hU,hm3 rfl⟩⟩
structure SS(s:cK):Prop where
 issuers:s.1.length≤aC
 units:s.2.1.length≤aC
 schemas:s.2.2.1.length≤aC
 rules:s.2.2.2.1.length≤aC
 converts:s.2.2.2.2.1.length≤aC
 purposes:s.2.2.2.2.2.1.length≤aC
 fields:∀x∈s.2.2.1,x.2.2.2.2.1.length≤aC∧∀f∈x.2.2.2.2.1,(namesOf f.2.1).length≤aC
 depends:∀x∈s.2.2.1,x.2.2.2.2.2.1.length≤aC∧∀d∈x.2.2.2.2.2.1,d.1.length≤aC∧d.2.2.1.length≤aC
 rl:∀r∈s.2.2.2.1,r.2.2.1.length≤aC∧r.2.2.2.1.length≤aC∧r.2.2.2.2.1.length≤aC
 mv:∀c∈s.2.2.2.2.1,c.2.2.2.2.1.length≤aC
 may:∀p∈s.2.2.2.2.2.1,p.2.1.length≤aC
theorem eqS2(x y:ZH)(hl:y.length≤aC):∃r,f97 x y=some r:=Ev .str (fun a b=>decide (a=b)) x y fun e=>e▸hl
theorem eqI2(x y:Zf)(hl:y.length≤aC):∃r,f63 x y=some r:=Ev (.int .i64) (fun a b=>decide (a=b)) x y fun e=>e▸hl
theorem sameFields_ans(a b:Lb)(h:(namesOf b.2.1).length≤aC):∃r,f153 a b=some r:=by
 obtain⟨q,hq⟩:=eqS2 (namesOf a.2.1) (namesOf b.2.1) h
 unfold f153
 refine bindT ?_ fun v=>⟨v,rfl⟩
 unfold namesOf at hq
 simp only[hq,Option.bind_some]
 repeat' (first|exact⟨_,rfl⟩|split)
theorem sameDepends_ans(a b:gB)(h:b.1.length≤aC)(h2:b.2.2.1.length≤aC):∃r,f155 a b=some r:=by
 obtain⟨q,hq⟩:=eqS2 a.1 b.1 h
 obtain⟨q2,hq2⟩:=eqI2 a.2.2.1 b.2.2.1 h2
 unfold f155
 refine bindT ?_ fun v=>⟨v,rfl⟩
 simp only[hq,hq2,Option.bind_some]
 repeat' (first|exact⟨_,rfl⟩|split)
theorem sameSchemas_ans(a b:jt)(h1:b.2.2.2.2.1.length≤aC∧∀f∈b.2.2.2.2.1,(namesOf f.2.1).length≤aC)(h2:b.2.2.2.2.2.1.length≤aC∧∀d∈b.2.2.2.2.2.1,d.1.length≤aC∧d.2.2.1.length≤aC):∃r,f100 a b=some r:=by
 obtain⟨q,hq⟩:∃r,vn a.2.2.2.2.1 b.2.2.2.2.1=some r:=K6 du f153 _ _ (fun x _ y hy=>sameFields_ans x y (h1.2 y hy)) fun e=>e▸h1.1
 obtain⟨q2,hq2⟩:∃r,tn a.2.2.2.2.2.1 b.2.2.2.2.2.1=some r:=K6 dy f155 _ _ (fun x _ y hy=>sameDepends_ans x y (h2.2 y hy).1 (h2.2 y hy).2) fun e=>e▸h2.1
 unfold f100
 refine bindT ?_ fun v=>⟨v,rfl⟩
 simp only[hq,hq2,Option.bind_some]
 repeat' (first|exact⟨_,rfl⟩|split)
theorem sameRules_ans(a b:cF)(h:b.2.2.1.length≤aC∧b.2.2.2.1.length≤aC∧b.2.2.2.2.1.length≤aC):∃r,f102 a b=some r:=by
 obtain⟨q1,hq1⟩:∃r,f156 a.2.2.1 b.2.2.1=some r:=Ev aK (fun x y=>aU aK x y) _ _ fun e=>e▸h.1
 obtain⟨q2,hq2⟩:∃r,f157 a.2.2.2.1 b.2.2.2.1=some r:=Ev aM (fun x y=>aU aM x y) _ _ fun e=>e▸h.2.1
 obtain⟨q3,hq3⟩:∃r,f158 a.2.2.2.2.1 b.2.2.2.2.1=some r:=Ev aW (fun x y=>aU aW x y) _ _ fun e=>e▸h.2.2
 unfold f102
 refine bindT ?_ fun v=>⟨v,rfl⟩
 simp only[hq1,hq2,hq3,Option.bind_some]
 repeat' (first|exact⟨_,rfl⟩|split)
theorem sameConverts_ans(a b:nC)(h:b.2.2.2.2.1.length≤aC):∃r,f104 a b=some r:=by
 obtain⟨q1,hq1⟩:∃r,f159 a.2.2.2.2.1 b.2.2.2.2.1=some r:=Ev aO (fun x y=>aU aO x y) _ _ fun e=>e▸h
 unfold f104
 refine bindT ?_ fun v=>⟨v,rfl⟩
 simp only[hq1,Option.bind_some]
 repeat' (first|exact⟨_,rfl⟩|split)
theorem samePurposes_ans(a b:kY)(h:b.2.1.length≤aC):∃r,f106 a b=some r:=by
 obtain⟨q1,hq1⟩:∃r,f160 a.2.1 b.2.1=some r:=Ev dz (fun x y=>aU dz x y) _ _ fun e=>e▸h
 unfold f106
 refine bindT ?_ fun v=>⟨v,rfl⟩
 simp only[hq1,Option.bind_some]
 repeat' (first|exact⟨_,rfl⟩|split)
theorem same_ans(a s:cK)(hs:SS s):∃r,f62 a s=some r:=by
 obtain⟨q1,hq1⟩:=eqS2 a.1 s.1 hs.issuers
 obtain⟨q2,hq2⟩:∃r,f98 a.2.1 s.2.1=some r:=Ev aO (fun x y=>aU aO x y) _ _ fun e=>e▸hs.units
 obtain⟨q3,hq3⟩:∃r,xM a.2.2.1 s.2.2.1=some r:=K6 bB f100 _ _ (fun x _ y hy=>sameSchemas_ans x y (hs.fields y hy) (hs.depends y hy)) fun e=>e▸hs.schemas
 obtain⟨q4,hq4⟩:∃r,tp a.2.2.2.1 s.2.2.2.1=some r:=K6 bu f102 _ _ (fun x _ y hy=>sameRules_ans x y (hs.rl y hy)) fun e=>e▸hs.rules
 obtain⟨q5,hq5⟩:∃r,tq a.2.2.2.2.1 s.2.2.2.2.1=some r:=K6 dR f104 _ _ (fun x _ y hy=>sameConverts_ans x y (hs.mv y hy)) fun e=>e▸hs.converts
 obtain⟨q6,hq6⟩:∃r,tu a.2.2.2.2.2.1 s.2.2.2.2.2.1=some r:=K6 cQ f106 _ _ (fun x _ y hy=>samePurposes_ans x y (hs.may y hy)) fun e=>e▸hs.purposes
 unfold f62
 refine bindT ?_ fun v=>⟨v,rfl⟩
 simp only[hq1,hq2,hq3,hq4,hq5,hq6,Option.bind_some]
 repeat' (first|exact⟨_,rfl⟩|split)
theorem depHas_ans(a b:Int)(h:0≤b):∃r,f208 a b=some r:=⟨_,if_pos h⟩
theorem depl3(m:Int)(d:gB)(l:Zf)(hl:l.length≤aC):∀(n i:Nat)(e:Int),l.length -i<n→i≤l.length→(∃e',kH n (m,e,l,(l.length:Int),(i:Int),d)=some (.brk (m,e',d)))∨kH n (m,e,l,(l.length:Int),(i:Int),d)=some (.ret false):=by
 intro n
 have hB:=hB
 induction n with
 |zero=>intro i e h;omega
 |
  succ n ih=>
  intro i e hn hi
  unfold kH at ih ⊢
  rw[aP]
  generalize aH _ n=rec at ih ⊢
  dsimp only
  by_cases h:i<l.length
  ·rw[if_pos (decide_eq_true (by omega)),if_pos (Int.natCast_nonneg i),if_pos (show(i:Int)<(l.length:Int) by omega),aJ (by omega)]
   by_cases h0:nth (.int .i64) l (i:Int)<(0:Int)
   ·rw[if_pos (decide_eq_true h0)];exact Or.inr rfl
   ·rw[if_neg (show¬decide (nth (.int .i64) l (i:Int)<(0:Int))=true by simpa using h0)]
    obtain⟨q,hq⟩:=depHas_ans e (nth (.int .i64) l (i:Int)) (Int.not_lt.1 h0)
    rw[hq]
    have key:∀v:Bool,(∃e',(if v=true then(bP (some false)) else(if 0≤(nth (.int .i64) l (i:Int)) then(rec (m,dZ .or .u64 e (IntKind.u64.wrap ((1:Int)*2^(min (Int.toNat (nth (.int .i64) l (i:Int))) 64))),l,(l.length:Int),((i+1:Nat):Int),d)) else none))=some (.brk (m,e',d)))∨(if v=true then(bP (some false)) else(if 0≤(nth (.int .i64) l (i:Int)) then(rec (m,dZ .or .u64 e (IntKind.u64.wrap ((1:Int)*2^(min (Int.toNat (nth (.int .i64) l (i:Int))) 64))),l,(l.length:Int),((i+1:Nat):Int),d)) else none))=some (.ret false):=fun v=>by
     cases v with
     |true=>exact Or.inr rfl
     |
      false=>
      rw[if_neg (by decide),if_pos (Int.not_lt.1 h0)]
      exact ih (i+1) _ (by omega) (by omega)
    split
    ·exact key true
    ·exact key q
  ·rw[if_neg (by simp only[decide_eq_true_eq];omega)]
   exact Or.inl ⟨e,rfl⟩
theorem depValid_ans(d:gB)(m:Int)(hl:d.2.2.1.length≤aC):∃r,f143 d m=some r:=by
 unfold f143
 have e:=depl3 m d d.2.2.1 hl (Int.toNat (List.length d.2.2.1:Int)+1) 0 0 (by omega) (by omega)
 rcases e with⟨e',e⟩|e
 ·have h:kH (Int.toNat (List.length d.2.2.1:Int)+1) (m,(0:Int),d.2.2.1,(List.length d.2.2.1:Int),(0:Int),d)=some (.brk (m,e',d)):=e
  rw[h,aG]
  dsimp only
  refine bindT ?_ fun v=>⟨v,rfl⟩
  by_cases h0:0≤d.2.2.2.1
  ·obtain⟨q,hq⟩:=depHas_ans e' d.2.2.2.1 h0
   rw[hq]
   repeat' (first|exact⟨_,rfl⟩|split)
  ·rw[if_neg (show¬decide ((0:Int)≤d.2.2.2.1)=true by simpa using h0)]
   repeat' (first|exact⟨_,rfl⟩|split)
 ·have h:kH (Int.toNat (List.length d.2.2.1:Int)+1) (m,(0:Int),d.2.2.1,(List.length d.2.2.1:Int),(0:Int),d)=some (.ret false):=e
  rw[h,dM]
  exact⟨_,rfl⟩
theorem depl4(x:jt)(l:List gB)(hl:l.length≤aC)(hd:∀d∈l,d.2.2.1.length≤aC):∀(n i:Nat),l.length -i<n→i≤l.length→∃r,aE (U:=Unit) (qe n (l,(l.length:Int),(i:Int),x)) (fun _=>some (0:Int))=some r:=by
 intro n
 have hB:=hB
 induction n with
 |zero=>intro i h;omega
 |
  succ n ih=>
  intro i hn hi
  unfold qe at ih ⊢
  rw[aP]
  generalize aH _ n=rec at ih ⊢
  dsimp only
  by_cases h:i<l.length
  ·obtain⟨r,hr⟩:=depValid_ans l[i] (x.2.2.2.2.1.length:Int) (hd _ (List.getElem_mem h))
   rw[if_pos (decide_eq_true (by omega)),if_pos (Int.natCast_nonneg i),if_pos (show(i:Int)<(l.length:Int) by omega),db (t:=dy) h,aJ (by omega),hr,Option.bind_some]
   cases r with
   |false=>exact⟨_,rfl⟩
   |true=>rw[if_neg (by decide)];exact ih (i+1) (by omega) (by omega)
  ·rw[if_neg (by simp only[decide_eq_true_eq];omega)]
   exact⟨_,rfl⟩
theorem depCheck_ans(x:jt)(hl:x.2.2.2.2.2.1.length≤aC)(hd:∀d∈x.2.2.2.2.2.1,d.2.2.1.length≤aC):∃r,f91 x=some r:=by
 unfold f91
 have h4:∃r,aE (U:=Unit) (qe (Int.toNat (List.length x.2.2.2.2.2.1:Int)+1) (x.2.2.2.2.2.1,(List.length x.2.2.2.2.2.1:Int),(0:Int),x)) (fun _=>some (0:Int))=some r:=depl4 x _ hl hd _ 0 (by omega) (by omega)
 have h2:∀v:Bool,∃r,aE (U:=jt) (if v=true then(bP (some (130:Int))) else(some (.brk x))) (fun v1=>aE (U:=Unit) (qe (Int.toNat (List.length v1.2.2.2.2.2.1:Int)+1) (v1.2.2.2.2.2.1,(List.length v1.2.2.2.2.2.1:Int),(0:Int),v1)) fun _=>some (0:Int))=some r:=fun v=>by
  cases v with
  |true=>exact⟨_,rfl⟩
  |false=>exact h4
 split
 ·exact h2 true
 ·split
  ·exact h2 true
  ·exact h2 _
theorem determined_ans(s:cK)(hs:SS s):∃r,f58 s=some r:=by
 have hB:=hB
 have key:∀(n i:Nat),s.2.2.1.length -i<n→i≤s.2.2.1.length→∃r,aE (U:=Unit) (xW n (s.2.2.1,(s.2.2.1.length:Int),(i:Int))) (fun _=>some (0:Int))=some r:=by
  intro n
  have hl:=hs.schemas
  induction n with
  |zero=>intro i h;omega
  |
   succ n ih=>
   intro i hn hi
   unfold xW at ih ⊢
   rw[aP]
   generalize aH _ n=rec at ih ⊢
   dsimp only
   by_cases h:i<s.2.2.1.length
   ·have hd:=hs.depends _ (List.getElem_mem h)
    obtain⟨r,hr⟩:=depCheck_ans s.2.2.1[i] hd.1 fun d hdm=>(hd.2 d hdm).2
    rw[if_pos (decide_eq_true (by omega)),if_pos (Int.natCast_nonneg i),if_pos (show(i:Int)<(s.2.2.1.length:Int) by omega),db (t:=bB) h,aJ (by omega),hr,Option.bind_some]
    split
    ·exact⟨_,rfl⟩
    ·exact ih (i+1) (by omega) (by omega)
   ·rw[if_neg (by simp only[decide_eq_true_eq];omega)]
    exact⟨_,rfl⟩
 exact key _ 0 (by omega) (by omega)
theorem whole_ans(l:Zf)(m:Int)(hl:l.length≤1000000):∃b d,zh l m []=some (b,d):=by
 have hB:=hB
 have key:∀(n i:Nat)(d:Zn),l.length -i<n→i≤l.length→d.length≤i→∃b d',aE (U:=Zf×Int×Zn) (nF n (l,m,l,(l.length:Int),(i:Int),d)) (fun u=>match u with|⟨a,b,c⟩=>some (decide ((List.length a:Int)=b),c))=some (b,d'):=by
  intro n
  induction n with
  |zero=>intro i d h;omega
  |
   succ n ih=>
   intro i d hn hi hd
   unfold nF at ih ⊢
   rw[aP]
   generalize aH _ n=rec at ih ⊢
   dsimp only
   by_cases h:i<l.length
   ·rw[if_pos (decide_eq_true (by omega)),if_pos (Int.natCast_nonneg i),if_pos (show(i:Int)<(l.length:Int) by omega)]
    split
    ·exact⟨_,_,rfl⟩
    ·rw[if_pos (by omega),aJ (by omega)]
     exact ih (i+1) _ (by omega) (by omega) (Nat.le_trans (dA (kt:=.int .i64)) (by omega))
   ·rw[if_neg (by simp only[decide_eq_true_eq];omega)]
    exact⟨_,_,rfl⟩
 exact key _ 0 [] (by omega) (by omega) (by simp)
theorem Ranked.len{s:cK}{l:Zf}(h:Ranked s l):l.length≤s.2.2.1.length:=eO _ l h.nod fun x hx=>(h.all x).1 hx
theorem TG.sb{s:cK}(h:TG s)(hs:SW s):SB s:=⟨by have:=h.many;omega,hs.rules,fun r hr=>(hs.rl r hr).1⟩
theorem rcheck_eq(s:cK)(hs:SW s):∃r,f92 s=some r∧(r=0→TG s):=by
 unfold f92
 obtain⟨r,hr,hm⟩:=tcheck_eq s hs
 rw[hr,Option.bind_some]
 by_cases h:r=0
 ·rw[if_neg (by simp[h])]
  have hT:=hm h
  obtain⟨l,ok,e,ho,_⟩:=xj (hT.sb hs)
  rw[ho,Option.bind_some]
  have yes:∀y:ZM,(∃z,y=some z)→∃z,y=some z∧(z=0→TG s):=fun y ⟨z,hz⟩=>⟨z,hz,fun _=>hT⟩
  apply yes
  dsimp only
  repeat' (first|exact⟨_,rfl⟩|split)
 ·rw[if_pos (by simp[h])]
  exact⟨r,rfl,fun h'=>absurd h' h⟩
theorem ordered_eq(s:cK)(hs:SW s):∃r,f59 s=some r∧(r=0→TG s∧∃l,f61 s=some (l,true,0)∧Ranked s l):=by
 unfold f59
 obtain⟨r,hr,hm⟩:=rcheck_eq s hs
 rw[hr,Option.bind_some]
 by_cases h:r=0
 ·rw[if_neg (by simp[h])]
  have hT:=hm h
  obtain⟨l,ok,e,ho,hk⟩:=xj (hT.sb hs)
  rw[ho,Option.bind_some]
  dsimp only
  by_cases he:e=0
  ·subst he
   rw[if_neg (by decide)]
   cases ok with
   |false=>rw[if_pos (by decide)];exact⟨141,rfl,fun h'=>absurd h' (by decide)⟩
   |
    true=>
    rw[if_neg (by decide)]
    have hR:=hk rfl rfl fun r hr=>⟨(hT.rules r hr).h0,(hT.rules r hr).h1⟩
    obtain⟨b,d,hw⟩:=whole_ans l (s.2.2.1.length:Int) (by have:=hR.len;have:=hT.many;omega)
    rw[hw,Option.bind_some]
    have yes:∀y:ZM,(∃z,y=some z)→∃z,y=some z∧(z=0→TG s∧∃l',some (l,true,(0:Int))=some (l',true,0)∧Ranked s l'):=fun y ⟨z,hz⟩=>⟨z,hz,fun _=>⟨hT,l,rfl,hR⟩⟩
    apply yes
    dsimp only
    repeat' (first|exact⟨_,rfl⟩|split)
  ·rw[if_pos (by simp[he])]
   exact⟨e,rfl,fun h'=>absurd h' he⟩
 ·rw[if_pos (by simp[h])]
  exact⟨r,rfl,fun h'=>absurd h' h⟩
theorem value_ans(s:cK)(hN:NB s)(a b v:Int):∃r,f54 s a b v=some r:=by
 unfold f54
 rcases typeOf_eq (s,()) a b with⟨hi,e⟩|⟨_,y,e⟩
 ·rw[e,Option.bind_some]
  dsimp only
  rw[if_pos rfl]
  have hm:=hi.mem
  obtain⟨q,hq⟩:=typeOK_ans (s,()) (nth du (flds s a) b).2.1 ((hN _ hm.1).2 _ hm.2)
  refine bindT ?_ fun v=>⟨v,rfl⟩
  have hq':f79 (s,()) (nth du (flds (s,()).1 a) b).2.1=some q:=hq
  rw[hq',Option.bind_some]
  repeat' (first|exact⟨_,rfl⟩|split)
 ·rw[e,Option.bind_some]
  exact⟨_,rfl⟩
theorem person_eq(s:cK)(hN:NB s)(a:Int):∃r,f144 s a=some r∧(r=true→0≤a∧a<(s.2.2.1.length:Int)):=by
 have hB:=hB
 have no:∀y:Zk,y=some false→∃r,y=some r∧(r=true→0≤a∧a<(s.2.2.1.length:Int)):=fun y hy=>⟨false,hy,fun h=>(by cases h)⟩
 unfold f144
 by_cases h0:a<0
 ·rw[if_pos (decide_eq_true h0)];exact no _ rfl
 ·rw[if_neg (show¬decide (a<(0:Int))=true by simpa using h0)]
  by_cases h1:(s.2.2.1.length:Int)≤a
  ·rw[decide_eq_true h1];exact no _ rfl
  ·rw[decide_eq_false h1,Option.bind_some,if_neg (by decide),aG]
   dsimp only
   rw[if_pos (Int.not_lt.1 h0),if_pos (Int.not_le.1 h1)]
   have yes:∀y:Zk,(∃z,y=some z)→∃z,y=some z∧(z=true→0≤a∧a<(s.2.2.1.length:Int)):=fun y ⟨z,hz⟩=>⟨z,hz,fun _=>⟨Int.not_lt.1 h0,Int.not_le.1 h1⟩⟩
   apply yes
   have hl:=(hN _ (da (t:=bB) (l:=s.2.2.1) (a:=a) (Int.not_lt.1 h0) (Int.not_le.1 h1))).1
   generalize (nth bB s.2.2.1 a).2.2.2.2.1=l at hl ⊢
   have key:∀(n i:Nat),l.length -i<n→i≤l.length→kS n (a,l,l,(l.length:Int),(i:Int),s)=some (.brk l)∨kS n (a,l,l,(l.length:Int),(i:Int),s)=some (.ret false):=by
    intro n
    induction n with
    |zero=>intro i h;omega
    |
     succ n ih=>
     intro i hn hi
     unfold kS at ih ⊢
     rw[aP]
     generalize aH _ n=rec at ih ⊢
     dsimp only
     by_cases h:i<l.length
     ·rw[if_pos (decide_eq_true (by omega)),if_pos (Int.natCast_nonneg i),if_pos (show(i:Int)<(l.length:Int) by omega),aJ (by omega)]
      obtain⟨q,hq⟩:=value_ans s hN a (i:Int) (nth du l (i:Int)).2.1.2.1
      rw[hq,Option.bind_some]
      cases q with
      |false=>exact Or.inr rfl
      |true=>rw[if_neg (by decide)];exact ih (i+1) (by omega) (by omega)
     ·rw[if_neg (by simp only[decide_eq_true_eq];omega)]
      exact Or.inl rfl
   have e:=key (Int.toNat (List.length l:Int)+1) 0 (by omega) (by omega)
   rcases e with e|e
   ·have e':kS (Int.toNat (List.length l:Int)+1) (a,l,l,(List.length l:Int),(0:Int),s)=some (.brk l):=e
    rw[e',aG]
    refine bindT ?_ fun v=>⟨v,rfl⟩
    by_cases hp:(0:Int)<(l.length:Int)
    ·rw[if_pos (decide_eq_true hp),if_pos hp];exact⟨_,rfl⟩
    ·rw[if_neg (show¬decide ((0:Int)<(l.length:Int))=true by simpa using hp)];exact⟨_,rfl⟩
   ·have e':kS (Int.toNat (List.length l:Int)+1) (a,l,l,(List.length l:Int),(0:Int),s)=some (.ret false):=e
    rw[e',dM];exact⟨_,rfl⟩
theorem fits_ans(a b:gI)(n:Int):∃r,f145 a b n=some r:=by
 unfold f145
 by_cases h1:a.1=b.1
 ·rw[if_neg (by simp[h1])]
  by_cases e1:a.1=1
  ·rw[if_pos (decide_eq_true e1),Option.bind_some,if_pos rfl]
   repeat' (first|exact⟨_,rfl⟩|split)
  ·rw[if_neg (show¬decide (a.1=(1:Int))=true by simpa using e1)]
   by_cases e2:a.1=2
   ·rw[decide_eq_true e2,Option.bind_some,if_pos rfl]
    repeat' (first|exact⟨_,rfl⟩|split)
   ·rw[decide_eq_false e2,Option.bind_some,if_neg (by decide),aG]
    dsimp only
    refine bindT ?_ fun v=>⟨v,rfl⟩
    repeat' (first|exact⟨_,rfl⟩|split)
 ·rw[if_pos (by simp[h1])];exact⟨_,rfl⟩
theorem twol8(l m:ZF)(k:Zq)(hk:k.length≤aC):∀(n i:Nat)(N O:List Bool),k.length -i<n→i≤k.length→N.length=l.length→O.length=m.length→
 ∃r,aE (U:=Unit) (rf n (l,m,k,(k.length:Int),(i:Int),N,O)) (fun _=>some true)=some r:=by
 intro n
 have hB:=hB
 induction n with
 |zero=>intro i N O h;omega
 |
  succ n ih=>
  intro i N O hn hi hN hO
  unfold rf at ih ⊢
  rw[aP]
  generalize aH _ n=rec at ih ⊢
  dsimp only
  by_cases h:i<k.length
  ·rw[if_pos (
    decide_eq_true (by omega)),if_pos (Int.natCast_nonneg i),if_pos (show(i:Int)<(k.length:Int) by omega)]
   generalize nth aO k (i:Int)=mv
   by_cases h1:mv.2.2.2.1<(1:Int)
   ·rw[if_pos (decide_eq_true h1)];exact⟨_,rfl⟩
   ·rw[if_neg (
     show¬decide (mv.2.2.2.1<(1:Int))=true by simpa using h1)]
    by_cases h2:(l.length:Int)≤mv.2.2.2.1
    ·rw[if_pos (decide_eq_true h2)];exact⟨_,rfl⟩
    ·rw[if_neg (show¬decide ((l.length:Int)≤mv.2.2.2.1)=true by simpa using h2)]
     by_cases h3:mv.2.2.1<(1:Int)
     ·rw[if_pos (decide_eq_true h3)];exact⟨_,rfl⟩
     ·rw[if_neg (show¬decide (mv.2.2.1<(1:Int))=true by simpa using h3)]
      by_cases h4:(m.length:Int)≤mv.2.2.1
      ·rw[if_pos (decide_eq_true h4)];exact⟨_,rfl⟩
      ·rw[if_neg (show¬decide ((m.length:Int)≤mv.2.2.1)=true by simpa using h4)]
       have p0:(0:Int)≤mv.2.2.2.1:=Int.le_trans (by decide) (Int.not_lt.1 h1)
       have p1:mv.2.2.2.1<(l.length:Int):=Int.not_le.1 h2
       have q0:(0:Int)≤mv.2.2.1:=Int.le_trans (by decide) (Int.not_lt.1 h3)
       have q1:mv.2.2.1<(m.length:Int):=Int.not_le.1 h4
       have p2:mv.2.2.2.1<(N.length:Int):=by rw[hN];exact p1
       have q2:mv.2.2.1<(O.length:Int):=by rw[hO];exact q1
       rw[if_pos p0,if_pos p2]
       have key:∀v:Bool,∃r,aE (U:=Unit) (aE (U:=ZF×ZF×Zq×Int×Int×fm×List Bool×List Bool) (if v=true then(bP (bP (some false))) else(some (.brk (l,m,k,(k.length:Int),(i:Int),mv,N,O)))) fun u=>match u with|⟨d,e,f,g,h,a,b,c⟩=>if 0≤a.2.2.2.1 then(if a.2.2.2.1<(List.length b:Int) then(if 0≤a.2.2.1 then(if a.2.2.1<(List.length c:Int) then(if 0≤a.2.2.2.1 then(if a.2.2.2.1<(List.length d:Int) then(if 0≤a.2.2.1 then(if a.2.2.1<(List.length e:Int) then(Option.bind (f145 (((nth du d a.2.2.2.1).2).1) (((nth du e a.2.2.1).2).1) a.2.2.2.2.1) fun y12=>if(!y12)=true then(bP (some false)) else(rec (d,e,f,g,aV (h+(1:Int)),List.set b (Int.toNat a.2.2.2.1) true,List.set c (Int.toNat a.2.2.1) true))) else none) else none) else none) else none) else none) else none) else none) else none) (fun _=>some true)=some r:=fun v=>by
        cases v with
        |true=>exact⟨_,rfl⟩
        |
         false=>
         rw[if_neg (by decide),aG]
         dsimp only
         rw[if_pos p0,if_pos p2,if_pos q0,if_pos q2,if_pos p0,if_pos p1,if_pos q0,if_pos q1]
         obtain⟨z,hz⟩:=fits_ans ((nth du l mv.2.2.2.1).2).1 ((nth du m mv.2.2.1).2).1 mv.2.2.2.2.1
         rw[hz,Option.bind_some]
         cases z with
         |false=>exact⟨_,rfl⟩
         |
          true=>
          rw[if_neg (by decide),aJ (by omega)]
          exact ih (i+1) _ _ (by omega) (by omega) (by rw[List.length_set];exact hN) (by rw[List.length_set];exact hO)
       split
       ·exact key true
       ·exact key _
  ·rw[if_neg (by simp only[decide_eq_true_eq];omega)]
   exact⟨_,rfl⟩
theorem twoWay_ans(s:cK)(hN:NB s)(c:nC)(hc:c.2.2.2.2.1.length≤aC):∃r,f94 s c=some r:=by
 have hB:=hB
 unfold f94
 by_cases h0:c.2.2.1=c.2.2.2.1
 ·rw[if_pos (decide_eq_true h0)];exact⟨_,rfl⟩
 ·rw[if_neg (show¬decide (c.2.2.1=c.2.2.2.1)=true by simpa using h0)]
  obtain⟨r1,e1,m1⟩:=person_eq s hN c.2.2.1
  rw[e1,Option.bind_some]
  cases r1 with
  |false=>exact⟨_,rfl⟩
  |
   true=>
   rw[if_neg (by decide)]
   obtain⟨r2,e2,m2⟩:=person_eq s hN c.2.2.2.1
   rw[e2,Option.bind_some,Option.bind_some]
   cases r2 with
   |false=>exact⟨_,rfl⟩
   |
    true=>
    rw[if_neg (by decide),aG]
    dsimp only
    have a1:=m1 rfl
    have a2:=m2 rfl
    rw[if_pos a1.1,if_pos a1.2,if_pos a2.1,if_pos a2.2]
    have l1:=(hN _ (da (t:=bB) (l:=s.2.2.1) a1.1 a1.2)).1
    have l2:=(hN _ (da (t:=bB) (l:=s.2.2.1) a2.1 a2.2)).1
    generalize (nth bB s.2.2.1 c.2.2.1).2.2.2.2.1=l at l1 ⊢
    generalize (nth bB s.2.2.1 c.2.2.2.1).2.2.2.2.1=m at l2 ⊢
    have h8:∃r,aE (U:=Unit) (rf (Int.toNat (List.length c.2.2.2.2.1:Int)+1) (l,m,c.2.2.2.2.1,(List.length c.2.2.2.2.1:Int),(0:Int),List.replicate (Int.toNat (List.length l:Int)) false,List.replicate (Int.toNat (List.length m:Int)) false)) (fun _=>some true)=some r:=
     twol8 l m c.2.2.2.2.1 hc _ 0 _ _ (by omega) (by omega) (by rw[List.length_replicate,Int.toNat_natCast]) (by rw[List.length_replicate,Int.toNat_natCast])
    have key:∀v:Bool,∃r,aE (U:=ZF×ZF×nC) (if v=true then(bP (some false)) else(some (.brk (l,m,c)))) (fun u=>match u with|⟨c,d,e⟩=>if 0≤(List.length c:Int) then(if(List.length c:Int)≤(List.length c:Int) then(if(List.length c:Int)*(1:Int)≤(aC:Int) then(if 0≤(List.length d:Int) then(if(List.length d:Int)≤(List.length d:Int) then(if(List.length d:Int)*(1:Int)≤(aC:Int) then(aE (U:=Unit) (rf (Int.toNat (List.length e.2.2.2.2.1:Int)+1) (c,d,e.2.2.2.2.1,(List.length e.2.2.2.2.1:Int),(0:Int),List.replicate (Int.toNat (List.length c:Int)) false,List.replicate (Int.toNat (List.length d:Int)) false)) fun _=>some true) else none) else none) else none) else none) else none) else none)=some r:=fun v=>by
     cases v with
     |true=>exact⟨_,rfl⟩
     |
      false=>
      rw[if_neg (by decide),aG]
      dsimp only
      rw[if_pos (Int.natCast_nonneg _),if_pos (Int.le_refl _),if_pos (by omega),if_pos (Int.natCast_nonneg _),if_pos (Int.le_refl _),if_pos (by omega)]
      exact h8
    split
    ·exact key true
    ·exact key _
theorem vcheck_ans(s:cK)(hN:NB s)(hs:SS s):∃r,f60 s=some r:=by
 have hB:=hB
 have hl:=hs.converts
 have key:∀(n i:Nat),s.2.2.2.2.1.length -i<n→i≤s.2.2.2.2.1.length→∃r,aE (U:=Unit) (zi n (s.2.2.2.2.1,(s.2.2.2.2.1.length:Int),(i:Int),s)) (fun _=>some (0:Int))=some r:=by
  intro n
  induction n with
  |zero=>intro i h;omega
  |
   succ n ih=>
   intro i hn hi
   unfold zi at ih ⊢
   rw[aP]
   generalize aH _ n=rec at ih ⊢
   dsimp only
   by_cases h:i<s.2.2.2.2.1.length
   ·obtain⟨r,hr⟩:=twoWay_ans s hN s.2.2.2.2.1[i] (hs.mv _ (List.getElem_mem h))
    rw[if_pos (decide_eq_true (by omega)),if_pos (Int.natCast_nonneg i),if_pos (show(i:Int)<(s.2.2.2.2.1.length:Int) by omega),db (t:=dR) h,aJ (by omega),hr,Option.bind_some]
    cases r with
    |false=>exact⟨_,rfl⟩
    |true=>rw[if_neg (by decide)];exact ih (i+1) (by omega) (by omega)
   ·rw[if_neg (by simp only[decide_eq_true_eq];omega)]
    exact⟨_,rfl⟩
 exact key _ 0 (by omega) (by omega)
theorem colStr_eq(l:ZH)(hl:l.length≤aC):∃M b,VR l.length M∧ua l=some (some M,b):=iJ .str f182 (fun x=>x) (fun _=>rfl) l hl
theorem colUnit_eq(l:Zq)(hl:l.length≤aC):∃M b,VR l.length M∧ub l=some (some M,b):=iJ aO f184 (fun x=>x.1) (fun _=>rfl) l hl
theorem colSchema_eq(l:ZA)(hl:l.length≤aC):∃M b,VR l.length M∧uc l=some (some M,b):=iJ bB f186 (fun x=>x.1) (fun _=>rfl) l hl
theorem colPurpose_eq(l:Zz)(hl:l.length≤aC):∃M b,VR l.length M∧ud l=some (some M,b):=iJ cQ f188 (fun x=>x.1) (fun _=>rfl) l hl
theorem colField_eq(l:ZF)(hl:l.length≤aC):∃M b,VR l.length M∧ue l=some (some M,b):=iJ du f190 (fun x=>x.1) (fun _=>rfl) l hl
theorem colFrom_eq(l:Zv)(hl:l.length≤aC):∃M b,VR l.length M∧uf l=some (some M,b):=iJ aK f192 (fun x=>x.1) (fun _=>rfl) l hl
theorem find_eq{n:Nat}(m:Za)(h:VR n (bT m))(k:Zg):f193 m k=some (.inl ((),()))∨∃x,f193 m k=some (.inr x)∧0≤x∧x<(n:Int):=by
 unfold f193
 cases hk:cp .str k (bT m) with
 |false=>exact Or.inl (if_pos (by decide))
 |true=>exact Or.inr ⟨_,if_neg (by decide),h.get hk⟩
abbrev OM:=Za
theorem gatl11(s:cK)(i u m:OM)(l:ZA)(hl:l.length*96≤aC)(hf:∀x∈l,x.2.2.2.2.1.length≤aC):∀(n c:Nat)(g:Bool)(f:List OM),l.length -c<n→c≤l.length→f.length=c→(∀j(hj:j<f.length)(hj':j<l.length),VR l[j].2.2.2.2.1.length (bT f[j]))→
 ∃g' f',iv n (g,l,(l.length:Int),(c:Int),s,i,u,m,f)=some (.brk (g',s,i,u,m,f'))∧f'.length=l.length∧∀j(hj:j<f'.length)(hj':j<l.length),VR l[j].2.2.2.2.1.length (bT f'[j]):=by
 intro n
 have hB:=hB
 induction n with
 |zero=>intro c g f h;omega
 |
  succ n ih=>
  intro c g f hn hc hfl hv
  unfold iv at ih ⊢
  rw[aP]
  generalize aH _ n=rec at ih ⊢
  dsimp only
  by_cases h:c<l.length
  ·obtain⟨M,b,hM,e⟩:=colField_eq l[c].2.2.2.2.1 (hf _ (List.getElem_mem h))
   rw[if_pos (decide_eq_true (by omega)),if_pos (Int.natCast_nonneg c),if_pos (show(c:Int)<(l.length:Int) by omega),db (t:=bB) h,e,Option.bind_some]
   dsimp only
   rw[if_pos (show(f.length+List.length [_])*8≤aC by rw[List.length_singleton];omega),aJ (by omega)]
   have key:∀v:Bool,∃g' f',rec (v,l,(l.length:Int),((c+1:Nat):Int),s,i,u,m,f++[some M])=some (.brk (g',s,i,u,m,f'))∧f'.length=l.length∧∀j(hj:j<f'.length)(hj':j<l.length),VR l[j].2.2.2.2.1.length (bT f'[j]):=fun v=>
    ih (
     c+1) v _ (by omega) (by omega) (by rw[List.length_append,List.length_singleton,hfl]) fun j hj hj'=>by
     by_cases ej:j<f.length
     ·rw[List.getElem_append_left ej];exact hv j ej hj'
     ·have:j=c:=by rw[List.length_append,List.length_singleton] at hj;omega
      subst this
      rw[List.getElem_append_right (by omega)]
      simp only[hfl,Nat.sub_self,List.getElem_singleton]
      exact hM
   split
   ·rw[Option.bind_some];exact key true
   ·rw[Option.bind_some];exact key b
  ·rw[if_neg (by simp only[decide_eq_true_eq];omega)]
   exact⟨g,f,rfl,by omega,hv⟩
theorem gatl18(i u m:OM)(fs:List OM)(l:Zm)(hl:l.length≤aC)(hf:∀x∈l,x.2.2.1.length≤aC):∀(n c:Nat)(g:Bool),l.length -c<n→c≤l.length→
 ∃g',iw n (g,l,(l.length:Int),(c:Int),i,u,m,fs)=some (.brk (g',i,u,m,fs)):=by
 intro n
 have hB:=hB
 induction n with
 |zero=>intro c g h;omega
 |
  succ n ih=>
  intro c g hn hc
  unfold iw at ih ⊢
  rw[aP]
  generalize aH _ n=rec at ih ⊢
  dsimp only
  by_cases h:c<l.length
  ·obtain⟨M,b,_,e⟩:=colFrom_eq l[c].2.2.1 (hf _ (List.getElem_mem h))
   rw[if_pos (decide_eq_true (by omega)),if_pos (Int.natCast_nonneg c),if_pos (show(c:Int)<(l.length:Int) by omega),db (t:=bu) h,e,Option.bind_some]
   dsimp only
   rw[aJ (by omega)]
   split
   ·rw[Option.bind_some];exact ih (c+1) true (by omega) (by omega)
   ·rw[Option.bind_some];exact ih (c+1) b (by omega) (by omega)
  ·rw[if_neg (by simp only[decide_eq_true_eq];omega)]
   exact⟨g,rfl⟩
theorem gather_eq(s:cK)(hs:SS s)(h96:s.2.2.1.length*96≤aC):∃tw i u m fs,oY s=some (tw,i,u,m,fs)∧VR s.1.length (bT i)∧VR s.2.1.length (bT u)∧VR s.2.2.1.length (bT m)∧fs.length=s.2.2.1.length∧∀j(hj:j<fs.length)(hj':j<s.2.2.1.length),VR s.2.2.1[j].2.2.2.2.1.length (bT fs[j]):=by
 have hB:=hB
 obtain⟨M1,b1,v1,e1⟩:=colStr_eq s.1 hs.issuers
 obtain⟨M2,b2,v2,e2⟩:=colUnit_eq s.2.1 hs.units
 obtain⟨M3,b3,v3,e3⟩:=colSchema_eq s.2.2.1 hs.schemas
 obtain⟨M4,b4,_,e4⟩:=colPurpose_eq s.2.2.2.2.2.1 hs.purposes
 unfold oY
 rw[e1,Option.bind_some]
 dsimp only
 rw[e2,Option.bind_some]
 dsimp only
 have orT:∀(a b:Bool)(K:Bool→Option (Bool×OM×OM×OM×List OM))(P:Option (Bool×OM×OM×OM×List OM)→Prop),(∀v,P (K v))→P (Option.bind (α:=Bool) (if a=true then(some true) else(some b)) K):=fun a b K P h=>by
  cases a with
  |true=>exact h true
  |false=>exact h b
 refine orT _ _ _ (fun y=>∃tw i u m fs,y=some (tw,i,u,m,fs)∧VR s.1.length (bT i)∧VR s.2.1.length (bT u)∧VR s.2.2.1.length (bT m)∧fs.length=s.2.2.1.length∧∀j(hj:j<fs.length)(hj':j<s.2.2.1.length),VR s.2.2.1[j].2.2.2.2.1.length (bT fs[j])) fun w1=>?_
 rw[e3,Option.bind_some]
 dsimp only
 refine orT _ _ _ (fun y=>∃tw i u m fs,y=some (tw,i,u,m,fs)∧VR s.1.length (bT i)∧VR s.2.1.length (bT u)∧VR s.2.2.1.length (bT m)∧fs.length=s.2.2.1.length∧∀j(hj:j<fs.length)(hj':j<s.2.2.1.length),VR s.2.2.1[j].2.2.2.2.1.length (bT fs[j])) fun w2=>?_
 rw[e4,Option.bind_some]
 dsimp only
 refine orT _ _ _ (fun y=>∃tw i u m fs,y=some (tw,i,u,m,fs)∧VR s.1.length (bT i)∧VR s.2.1.length (bT u)∧VR s.2.2.1.length (bT m)∧fs.length=s.2.2.1.length∧∀j(hj:j<fs.length)(hj':j<s.2.2.1.length),VR s.2.2.1[j].2.2.2.2.1.length (bT fs[j])) fun w3=>?_
 obtain⟨g',f',e11,hl,hv⟩:=gatl11 s (some M1) (some M2) (some M3) s.2.2.1 h96 (fun x hx=>(hs.fields x hx).1) (Int.toNat (List.length s.2.2.1:Int)+1) 0 w3 [] (by omega) (by omega) rfl (fun j hj=>by simp at hj)
 have e11':iv (Int.toNat (List.length s.2.2.1:Int)+1) (w3,s.2.2.1,(List.length s.2.2.1:Int),(0:Int),s,some M1,some M2,some M3,([]:List OM))=some (.brk (g',s,some M1,some M2,some M3,f')):=e11
 rw[e11',aG]
 dsimp only
 obtain⟨g2,e18⟩:=gatl18 (some M1) (some M2) (some M3) f' s.2.2.2.1 hs.rules (fun x hx=>(hs.rl x hx).1) (Int.toNat (List.length s.2.2.2.1:Int)+1) 0 g' (by omega) (by omega)
 have e18':iw (Int.toNat (List.length s.2.2.2.1:Int)+1) (g',s.2.2.2.1,(List.length s.2.2.2.1:Int),(0:Int),some M1,some M2,some M3,f')=some (.brk (g2,some M1,some M2,some M3,f')):=e18
 rw[e18',aG]
 exact⟨g2,some M1,some M2,some M3,f',rfl,v1,v2,v3,hl,hv⟩
theorem findW{n:Nat}{m:OM}(h:VR n (bT m)){k:Zg}{R:Type}{kp:Unit×Unit→Option R}{kn:Int→Option R}{P:R→Prop}(h1:W (kp ((),())) P)(h2:∀x,0≤x→x<(n:Int)→W (kn x) P):W (dG (f193 m k) kp kn) P:=by
 rcases find_eq m h k with e|⟨x,e,h0,hx⟩
 ·rw[e];exact h1
 ·rw[e];exact h2 x h0 hx
theorem findU(m:OM){k:Zg}{R:Type}{kp:Unit×Unit→Option R}{kn:Int→Option R}{P:R→Prop}(h1:W (kp ((),())) P)(h2:∀x,W (kn x) P):W (dG (f193 m k) kp kn) P:=by
 unfold f193
 cases cp .str k (bT m) with
 |false=>exact h1
 |true=>exact h2 _
theorem nUnits_eq(i u m:OM)(l:Zq)(fs:List OM)(hl:l.length≤aC)(hv:VR l.length (bT u)):W (oZ i u m l fs) (ST (fun _=>True) fun r=>∃l',r=(i,u,m,l',fs)):=by
 have hB:=hB
 unfold oZ
 refine bQ.2 (W.ct (ck (L:=qq) rfl (CT (fun d=>∃l',d=(i,u,m,l',fs)) fun r=>r= .inl ((),())) l.length (fun c(s:Zq)=>((l.length:Int),(c:Int),i,u,m,s,fs)) (fun _ s=>s.length=l.length) ?step ?stop _ 0 l (by omega) (by omega) rfl) (fun d ⟨l',h⟩=>?_) fun r h=>?_)
 case step=>
  intro rec c s hc hI k
  dsimp only
  rw[if_pos (decide_eq_true (by omega)),if_pos (Int.natCast_nonneg c),if_pos (show(c:Int)<(s.length:Int) by omega),aJ (by omega)]
  split
  ·exact k _ (by rw[List.length_set,List.length_set];exact hI)
  ·refine findW hv ⟨_,rfl,rfl⟩ fun x h0 h1=>?_
   by_cases h:(c:Int)≤x
   ·rw[if_pos (decide_eq_true h)];exact⟨_,rfl,rfl⟩
   ·rw[if_neg (show¬decide ((c:Int)≤x)=true by simpa using h),aG]
    dsimp only
    rw[if_pos h0,if_pos (show x<(s.length:Int) by omega)]
    generalize hL:List.set _ _ _=L
    have hL':L.length=l.length:=by rw[←hL,List.length_set,List.length_set];exact hI
    clear hL
    rw[aG]
    dsimp only
    have hx:x<(L.length:Int):=by omega
    rw[if_pos h0,if_pos hx]
    refine W.bt ?_ fun v=>?_
    ·repeat' (first|exact⟨_,rfl⟩|split)
    ·split
     ·rw[aJ (by omega)]
      exact k _ (by rw[List.length_set];exact hL')
     ·rw[aJ (by omega)]
      exact k _ hL'
 case stop=>
  intro rec s hI
  dsimp only
  rw[if_neg (by simp only[decide_eq_true_eq];omega)]
  exact⟨_,rfl,s,rfl⟩
 ·subst h;exact⟨_,rfl,l',rfl⟩
 ·subst h;exact trivial
def BSch(x:jt):Prop:=x.2.2.2.2.1.length*120≤aC∧x.2.2.2.2.2.1.length*72≤aC∧∀d∈x.2.2.2.2.2.1,d.1.length*16≤aC
theorem nSchema_eq(t i u m:OM)(l:ZA)(k:Nat)(a:jt)(fs:List OM)(hb:BSch a):W (o9 t i u m l k a fs) (ST (fun _=>True) fun r=>∃x1 x2 x3 x4 x5 x6 x7,r=(i,u,m,l,k,x1,x2,x3,x4,x5,fs,x6,x7)):=by
 have hB:=hB
 unfold o9
 refine findU i ⟨_,rfl,trivial⟩ fun y1=>?_
 have e1:ur a.2.2.2.2.1=some a.2.2.2.2.1:=fy _ _ hb.1
 rw[e1,Option.bind_some]
 have l1:a.2.2.2.2.1.length≤aC:=by have:=hb.1;omega
 refine bQ.2 (W.ct (ck (L:=qt) rfl (CT (fun d=>∃s',d=(t,i,u,m,l,k,a.1,a.2.1,y1,a.2.2.2.1,a.2.2.2.2.2,fs,s')) fun r=>r= .inl ((),())) a.2.2.2.2.1.length (fun c(s:ZF)=>(t,(a.2.2.2.2.1.length:Int),(c:Int),i,u,m,l,k,a.1,a.2.1,y1,a.2.2.2.1,a.2.2.2.2.2,fs,s)) (fun _ s=>s.length=a.2.2.2.2.1.length) ?step ?stop _ 0 a.2.2.2.2.1 (by omega) (by omega) rfl) (fun d ⟨s',h⟩=>?_) fun r h=>?_)
 case step=>
  intro rec c s hc hI kk
  dsimp only
  have hw:aV ((c:Int)+(1:Int))=((c+1:Nat):Int):=aJ (by omega)
  rw[if_pos (decide_eq_true (by omega)),if_pos (Int.natCast_nonneg c),if_pos (show(c:Int)<(s.length:Int) by omega)]
  generalize hL:List.set _ _ _=L
  have hL':L.length=a.2.2.2.2.1.length:=by rw[←hL,List.length_set];exact hI
  clear hL
  rw[aG]
  dsimp only
  refine W.bt ?_ fun v=>?_
  ·split<;>exact⟨_,rfl⟩
  ·split
   ·exact findU u ⟨_,rfl,rfl⟩ fun x=>(by rw[hw];exact kk _ (by rw[List.length_set];exact hL'))
   ·rw[hw];exact kk _ hL'
 case stop=>
  intro rec s hI
  dsimp only
  rw[if_neg (by simp only[decide_eq_true_eq];omega)]
  exact⟨_,rfl,s,rfl⟩
 ·subst h
  dsimp only
  have e2:uu a.2.2.2.2.2.1=some a.2.2.2.2.2.1:=fy _ _ hb.2.1
  rw[e2,Option.bind_some]
  have l2:a.2.2.2.2.2.1.length≤aC:=by have:=hb.2.1;omega
  refine bQ.2 (W.ct (ck (L:=oc) rfl (CT (fun d=>∃z,d=(i,u,m,l,k,a.1,a.2.1,y1,a.2.2.2.1,a.2.2.2.2.2.2,fs,s',z)) fun r=>r= .inl ((),())) a.2.2.2.2.2.1.length (fun c(s:List gB)=>(t,(a.2.2.2.2.2.1.length:Int),(c:Int),i,u,m,l,k,a.1,a.2.1,y1,a.2.2.2.1,a.2.2.2.2.2.2,fs,s',s)) (fun _ s=>s.length=a.2.2.2.2.2.1.length∧∀d∈s,d.1.length*16≤aC) ?step ?stop _ 0 a.2.2.2.2.2.1 (by omega) (by omega) ⟨rfl,hb.2.2⟩) (fun d ⟨z,h⟩=>?_) fun r h=>?_)
  case step=>
   intro rec c s hc hI kk
   dsimp only
   have hcs:(c:Int)<(s.length:Int):=by have:=hI.1;omega
   have hn:(nth dy s (c:Int)).1.length*16≤aC:=hI.2 _ (da (t:=dy) (Int.natCast_nonneg c) hcs)
   have hw:aV ((c:Int)+(1:Int))=((c+1:Nat):Int):=aJ (by omega)
   rw[if_pos (decide_eq_true (by omega)),if_pos (Int.natCast_nonneg c),if_pos hcs]
   generalize nth dy s (c:Int)=w at hn ⊢
   refine bQ.2 (bQ.2 (W.ct (ck (L:=nZ) rfl (CT (fun d=>∃e,d=(t,(a.2.2.2.2.2.1.length:Int),(c:Int),i,u,m,l,k,a.1,a.2.1,y1,a.2.2.2.1,a.2.2.2.2.2.2,fs,s',s,Int.toNat (c:Int),w.1,w.2.1,w.2.2.2,e)) fun r=>r= .ret (.ret (.inl ((),())))) w.1.length (fun j(e:Zf)=>(t,(a.2.2.2.2.2.1.length:Int),(c:Int),w.1,(w.1.length:Int),(j:Int),i,u,m,l,k,a.1,a.2.1,y1,a.2.2.2.1,a.2.2.2.2.2.2,fs,s',s,Int.toNat (c:Int),w.1,w.2.1,w.2.2.2,e)) (fun j e=>e.length=j) ?step2 ?stop2 _ 0 [] (by omega) (by omega) rfl) (fun d ⟨e,h⟩=>?_) fun r h=>?_))
   case step2=>
    intro rec2 j e hj hI2 kk2
    dsimp only
    have hw2:aV ((j:Int)+(1:Int))=((j+1:Nat):Int):=aJ (by omega)
    rw[if_pos (decide_eq_true (by omega)),if_pos (Int.natCast_nonneg j),if_pos (show(j:Int)<(w.1.length:Int) by omega)]
    refine findU t ⟨_,rfl,rfl⟩ fun x=>?_
    rw[if_pos (show(e.length+List.length [_])*8≤aC by rw[List.length_singleton];omega)]
    rw[hw2]
    exact kk2 _ (by rw[List.length_append,List.length_singleton,hI2])
   case stop2=>
    intro rec2 e hI2
    dsimp only
    rw[if_neg (by simp only[decide_eq_true_eq];omega)]
    exact⟨_,rfl,e,rfl⟩
   ·subst h
    dsimp only
    refine findU t ⟨_,rfl,rfl⟩ fun x=>⟨_,rfl,?_⟩
    rw[fU]
    dsimp only
    rw[hw]
    refine kk _ ⟨by rw[List.length_set];exact hI.1,fun d hd=>?_⟩
    rcases List.mem_or_eq_of_mem_set hd with h|rfl
    ·exact hI.2 d h
    ·exact hn
   ·subst h;exact rfl
  case stop=>
   intro rec s hI
   dsimp only
   rw[if_neg (by simp only[decide_eq_true_eq];omega)]
   exact⟨_,rfl,s,rfl⟩
  ·subst h
   exact⟨_,rfl,_,_,_,_,_,_,_,rfl⟩
  ·subst h;exact trivial
 ·subst h;exact trivial
def Sc(l:Zv):Zf:=l.map fun x=>x.2.2.1
theorem Sc_len(l:Zv):(Sc l).length=l.length:=List.length_map ..
theorem Sc_set(l:Zv)(i:Nat)(v:rV)(h:v.2.2.1=(l.getD i (Ty.aB aK)).2.2.1):Sc (l.set i v)=Sc l:=by
 unfold Sc
 rw[List.map_set]
 refine List.ext_getElem (by rw[List.length_set]) fun j h1 h2=>?_
 rw[List.getElem_set]
 split
 ·rename_i e
  subst e
  rw[List.length_map] at h2
  rw[h,List.getElem_map,List.getD_eq_getElem?_getD,List.getElem?_eq_getElem h2,Option.getD_some]
 ·rfl
def VS(n K:Nat)(s:Zf):Prop:=n≤s.length∧∀j(h:j<s.length),j<n→0≤s[j]∧s[j]<(K:Int)
theorem VS.at'{n K:Nat}{l:Zv}(h:VS n K (Sc l)){x:Int}(h0:0≤x)(h1:x<(n:Int)):x<(l.length:Int)∧0≤(nth aK l x).2.2.1∧(nth aK l x).2.2.1<(K:Int):=by
 have hn:=h.1
 rw[Sc_len] at hn
 have e:x=(x.toNat:Int):=by omega
 have hx:x.toNat<l.length:=by omega
 have hs:=h.2 x.toNat (by rw[Sc_len];exact hx) (by omega)
 rw[e,db (t:=aK) hx]
 unfold Sc at hs
 rw[List.getElem_map] at hs
 exact⟨by omega,hs⟩
theorem getD_set_self{α:Type}{l:List α}{i:Nat}{v d:α}(h:i<l.length):(l.set i v).getD i d=v:=by
 rw[List.getD_eq_getElem?_getD,List.getElem?_eq_getElem (by rw[List.length_set];exact h),Option.getD_some,List.getElem_set_self]
theorem nTerm1(a0:Nat)(a1:Zv)(a2:Zo)(i u m:OM)(a6:Zm)(a7:Nat)(a8:Zg)(a9:Int)(a10:Zx×Zy×Unit)(fs:List OM)(n:Nat)(h0:a0<a1.length)(hv:VR n a2)(hs:VS n fs.length (Sc a1)):
 W (pa a0 a1 a2 i u m a6 a7 a8 a9 a10 fs) (ST (fun _=>True) fun r=>∃a1',r=(a1',a2,i,u,m,a6,a7,a8,a9,a10,fs)∧Sc a1'=Sc a1):=by
 unfold pa
 generalize hL:List.set (List.set a1 _ _) _ _=L
 have hL':Sc L=Sc a1:=by
  rw[←hL,Sc_set _ _ _ (by rfl),Sc_set _ _ _ (by rfl)]
 have hLl:a0<L.length:=by rw[←hL,List.length_set,List.length_set];exact h0
 clear hL
 rw[aG]
 dsimp only
 split
 ·refine bQ.2 (findW (m:=some a2) hv ⟨_,rfl,trivial⟩ fun x hx0 hx1=>⟨_,rfl,?_⟩)
  rw[fU]
  generalize hM:List.set _ _ _=M
  have hg:(List.getD M a0 (Ty.aB aK)).2.2.2.1.2.2.1=x:=by rw[←hM,getD_set_self hLl]
  have hM':Sc M=Sc a1:=by rw[←hM,Sc_set _ _ _ (by rfl)];exact hL'
  clear hM
  dsimp only
  rw[←hM'] at hs
  obtain⟨q1,q2,q3⟩:=hs.at' hx0 hx1
  rw[hg,if_pos hx0,if_pos q1,if_pos q2,if_pos q3]
  refine findU _ ⟨_,rfl,trivial⟩ fun y=>⟨_,rfl,_,rfl,?_⟩
  rw[Sc_set _ _ _ (by rfl)];exact hM'
 ·exact⟨_,rfl,_,rfl,hL'⟩
theorem nTerm2(a0:Nat)(a1:Zx)(a2:Zo)(i u m:OM)(a6:Zm)(a7:Nat)(a8:Zg)(a9:Int)(a10:Zy×Unit)(fs:List OM)(a12:Zv)(n:Nat)(h0:a0<a1.length)(hv:VR n a2)(hs:VS n fs.length (Sc a12)):
 W (py a0 a1 a2 i u m a6 a7 a8 a9 a10 fs a12) (ST (fun _=>True) fun r=>∃a1',r=(a1',a2,i,u,m,a6,a7,a8,a9,a10,fs,a12)∧a1'.length=a1.length):=by
 unfold py
 generalize hL:List.set (List.set a1 _ _) _ _=L
 have hL':L.length=a1.length:=by rw[←hL,List.length_set,List.length_set]
 clear hL
 rw[aG]
 dsimp only
 split
 ·refine bQ.2 (findW (m:=some a2) hv ⟨_,rfl,trivial⟩ fun x hx0 hx1=>⟨_,rfl,?_⟩)
  rw[fU]
  generalize hM:List.set _ _ _=M
  have hg:(List.getD M a0 (Ty.aB aM)).2.1.2.2.1=x:=by rw[←hM,getD_set_self (by omega)]
  have hM':M.length=a1.length:=by rw[←hM,List.length_set];exact hL'
  clear hM
  dsimp only
  obtain⟨q1,q2,q3⟩:=hs.at' hx0 hx1
  rw[hg,if_pos hx0,if_pos q1,if_pos q2,if_pos q3]
  refine findU _ ⟨_,rfl,trivial⟩ fun y=>⟨_,rfl,_,rfl,?_⟩
  rw[List.length_set];exact hM'
 ·exact⟨_,rfl,_,rfl,hL'⟩
theorem nTerm3(a0:Nat)(a1:Zx)(a2:Zo)(i u m:OM)(a6:Zm)(a7:Nat)(a8:Zg)(a9:Int)(a10:Zy×Unit)(fs:List OM)(a12:Zv)(n:Nat)(h0:a0<a1.length)(hv:VR n a2)(hs:VS n fs.length (Sc a12)):
 W (pz a0 a1 a2 i u m a6 a7 a8 a9 a10 fs a12) (ST (fun _=>True) fun r=>∃a1',r=(a1',a2,i,u,m,a6,a7,a8,a9,a10,fs,a12)∧a1'.length=a1.length):=by
 unfold pz
 generalize hL:List.set (List.set a1 _ _) _ _=L
 have hL':L.length=a1.length:=by rw[←hL,List.length_set,List.length_set]
 clear hL
 rw[aG]
 dsimp only
 split
 ·refine bQ.2 (findW (m:=some a2) hv ⟨_,rfl,trivial⟩ fun x hx0 hx1=>⟨_,rfl,?_⟩)
  rw[fU]
  generalize hM:List.set _ _ _=M
  have hg:(List.getD M a0 (Ty.aB aM)).2.2.1.2.2.1=x:=by rw[←hM,getD_set_self (by omega)]
  have hM':M.length=a1.length:=by rw[←hM,List.length_set];exact hL'
  clear hM
  dsimp only
  obtain⟨q1,q2,q3⟩:=hs.at' hx0 hx1
  rw[hg,if_pos hx0,if_pos q1,if_pos q2,if_pos q3]
  refine findU _ ⟨_,rfl,trivial⟩ fun y=>⟨_,rfl,_,rfl,?_⟩
  rw[List.length_set];exact hM'
 ·exact⟨_,rfl,_,rfl,hL'⟩
theorem nTerm4(a0:Nat)(a1:Zy)(a2:Zo)(i u m:OM)(a6:Zm)(a7:Nat)(a8:Zg)(a9:Int)(a10:Unit)(fs:List OM)(a12:Zv)(a13:Zx)(n:Nat)(h0:a0<a1.length)(hv:VR n a2)(hs:VS n fs.length (Sc a12)):
 W (pA a0 a1 a2 i u m a6 a7 a8 a9 a10 fs a12 a13) (ST (fun _=>True) fun r=>∃a1',r=(a1',a2,i,u,m,a6,a7,a8,a9,a10,fs,a12,a13)∧a1'.length=a1.length):=by
 unfold pA
 generalize hL:List.set (List.set a1 _ _) _ _=L
 have hL':L.length=a1.length:=by rw[←hL,List.length_set,List.length_set]
 clear hL
 rw[aG]
 dsimp only
 split
 ·refine bQ.2 (findW (m:=some a2) hv ⟨_,rfl,trivial⟩ fun x hx0 hx1=>⟨_,rfl,?_⟩)
  rw[fU]
  generalize hM:List.set _ _ _=M
  have hg:(List.getD M a0 (Ty.aB aW)).2.2.1.2.2.1=x:=by rw[←hM,getD_set_self (by omega)]
  have hM':M.length=a1.length:=by rw[←hM,List.length_set];exact hL'
  clear hM
  dsimp only
  obtain⟨q1,q2,q3⟩:=hs.at' hx0 hx1
  rw[hg,if_pos hx0,if_pos q1,if_pos q2,if_pos q3]
  refine findU _ ⟨_,rfl,trivial⟩ fun y=>⟨_,rfl,_,rfl,?_⟩
  rw[List.length_set];exact hM'
 ·exact⟨_,rfl,_,rfl,hL'⟩
def BRule(x:cF):Prop:=x.2.2.1.length*96≤aC∧x.2.2.2.1.length*120≤aC∧x.2.2.2.2.1.length*80≤aC
theorem VS.cong{n K:Nat}{s:Zf}(h:VS n K s)(y:Int):VS n K (s.set n y):=by
 refine⟨by rw[List.length_set];exact h.1,fun j hj hn=>?_⟩
 rw[List.length_set] at hj
 rw[List.getElem_set_ne (by omega)]
 exact h.2 j hj hn
theorem VS.push{n K:Nat}{s:Zf}(h:VS n K s)(hn:n<s.length){y:Int}(h0:0≤y)(h1:y<(K:Int)):VS (n+1) K (s.set n y):=by
 refine⟨by rw[List.length_set];exact hn,fun j hj hjn=>?_⟩
 rw[List.length_set] at hj
 by_cases e:j=n
 ·subst e
  rw[List.getElem_set_self]
  exact⟨h0,h1⟩
 ·rw[List.getElem_set_ne (by omega)]
  exact h.2 j hj (by omega)
theorem VR.push{n:Nat}{M:Zo}(h:VR n M)(k:Zg):VR (n+1) (bz .str k (n:Int) M):=fun p hp=>by
 rcases eG (kt:=.str) hp with rfl|hp
 ·exact⟨Int.natCast_nonneg n,by show(n:Int)<_;omega⟩
 ·have:=h p hp
  exact⟨this.1,by omega⟩
theorem Sc_set'(l:Zv)(i:Nat)(v:rV):Sc (l.set i v)=(Sc l).set i v.2.2.1:=List.map_set ..
theorem nRule_eq(i u m:OM)(l:Zm)(k:Nat)(a:cF)(fs:List OM)(hb:BRule a)(hm:VR fs.length (bT m)):W (pB i u m l k a fs) (ST (fun _=>True) fun r=>∃x1 x2 x3 x4 x5 x6,r=(i,u,m,l,k,x1,x2,x3,fs,x4,x5,x6)):=by
 have hB:=hB
 unfold pB
 refine findW hm ⟨_,rfl,trivial⟩ fun y1 y0 yK=>?_
 have e1:uv a.2.2.1=some a.2.2.1:=fy _ _ hb.1
 rw[e1,Option.bind_some]
 have l1:a.2.2.1.length≤aC:=by have:=hb.1;omega
 have l2:a.2.2.2.1.length≤aC:=by have:=hb.2.1;omega
 have l3:a.2.2.2.2.1.length≤aC:=by have:=hb.2.2;omega
 refine bQ.2 (W.ct (ck (L:=qX) rfl (CT (fun d=>∃s V,d=(i,u,m,l,k,a.1,y1,a.2.2.2,fs,s,V)∧s.length=a.2.2.1.length∧VR s.length V∧VS s.length fs.length (Sc s)) fun r=>r= .inl ((),())) a.2.2.1.length (fun c(s:Zv×Zo)=>((a.2.2.1.length:Int),(c:Int),i,u,m,l,k,a.1,y1,a.2.2.2,fs,s.1,s.2)) (fun c s=>s.1.length=a.2.2.1.length∧s.2.length≤c∧VR c s.2∧VS c fs.length (Sc s.1)) ?step ?stop _ 0 (a.2.2.1,[]) (by omega) (by omega) ⟨rfl,Nat.le_refl _,fun p hp=>(by cases hp),Nat.zero_le _,fun j hj hj0=>absurd hj0 (Nat.not_lt_zero _)⟩) (fun d ⟨s,V,h,hsl,hVR,hVS⟩=>?_) fun r h=>?_)
 case step=>
  rintro rec c ⟨s,V⟩ hc ⟨hsl,hVl,hVR,hVS⟩ kk
  dsimp only at hsl hVl hVR hVS ⊢
  have hw:aV ((c:Int)+(1:Int))=((c+1:Nat):Int):=aJ (by omega)
  rw[if_pos (decide_eq_true (by omega)),if_pos (Int.natCast_nonneg c),if_pos (show(c:Int)<(s.length:Int) by omega)]
  refine bQ.2 (findW hm ⟨_,rfl,rfl⟩ fun x x0 xK=>⟨_,rfl,?_⟩)
  rw[fU]
  generalize hL:List.set _ _ _=L
  have hS:Sc L=(Sc s).set c x:=by rw[←hL,Sc_set',Int.toNat_natCast]
  have hLl:L.length=a.2.2.1.length:=by rw[←hL,List.length_set];exact hsl
  clear hL
  dsimp only
  refine i7.2 ((nTerm1 (Int.toNat (c:Int)) L V i u m l k a.1 y1 a.2.2.2 fs c (by rw[Int.toNat_natCast];omega) hVR (by rw[hS];exact hVS.cong x)).st (fun _ _=>⟨_,rfl,rfl⟩) fun r ⟨L',hr,hL'⟩=>?_)
  subst hr
  dsimp only
  rw[if_pos (show V.length+1≤aC by omega)]
  rw[hw]
  refine kk (L',bz .str (List.getD L' (Int.toNat (c:Int)) (Ty.aB aK)).1 (c:Int) V) ⟨?_,Nat.le_trans (dA (kt:=.str)) (by omega),VR.push (n:=c) hVR _,?_⟩
  ·have:=congrArg List.length hL'
   rw[Sc_len,Sc_len] at this
   exact this.trans hLl
  ·show VS (c+1) fs.length (Sc L')
   rw[hL',hS]
   exact hVS.push (by rw[Sc_len];omega) x0 xK
 case stop=>
  rintro rec ⟨s,V⟩ ⟨hsl,hVl,hVR,hVS⟩
  dsimp only at hsl hVl hVR hVS ⊢
  rw[if_neg (by simp only[decide_eq_true_eq];omega)]
  exact⟨_,rfl,s,V,rfl,hsl,hsl▸hVR,hsl▸hVS⟩
 ·subst h
  dsimp only
  have e2:uw a.2.2.2.1=some a.2.2.2.1:=fy _ _ hb.2.1
  rw[e2,Option.bind_some]
  refine bQ.2 (W.ct (ck (L:=oq) rfl (CT (fun d=>∃w,d=(i,u,m,l,k,a.1,y1,a.2.2.2.2,fs,s,V,w)) fun r=>r= .inl ((),())) a.2.2.2.1.length (fun c(w:Zx)=>((a.2.2.2.1.length:Int),(c:Int),i,u,m,l,k,a.1,y1,a.2.2.2.2,fs,s,V,w)) (fun _ w=>w.length=a.2.2.2.1.length) ?step ?stop _ 0 a.2.2.2.1 (by omega) (by omega) rfl) (fun d ⟨w,h⟩=>?_) fun r h=>?_)
  case step=>
   intro rec c w hc hI kk
   dsimp only
   have hw:aV ((c:Int)+(1:Int))=((c+1:Nat):Int):=aJ (by omega)
   rw[if_pos (decide_eq_true (by omega)),if_pos (Int.natCast_nonneg c),if_pos (show(c:Int)<(w.length:Int) by omega)]
   refine i7.2 ((nTerm2 (Int.toNat (c:Int)) w V i u m l k a.1 y1 a.2.2.2.2 fs s s.length (by rw[Int.toNat_natCast];omega) hVR hVS).st (fun _ _=>⟨_,rfl,rfl⟩) fun r ⟨w',hr,hw'⟩=>?_)
   subst hr
   dsimp only
   rw[if_pos (Int.natCast_nonneg c),if_pos (show(c:Int)<(w'.length:Int) by omega)]
   refine i7.2 ((nTerm3 (Int.toNat (c:Int)) w' V i u m l k a.1 y1 a.2.2.2.2 fs s s.length (by rw[Int.toNat_natCast];omega) hVR hVS).st (fun _ _=>⟨_,rfl,rfl⟩) fun r ⟨w2,hr,hw2⟩=>?_)
   subst hr
   rw[hw]
   exact kk w2 (hw2.trans (hw'.trans hI))
  case stop=>
   intro rec w hI
   dsimp only
   rw[if_neg (by simp only[decide_eq_true_eq];omega)]
   exact⟨_,rfl,w,rfl⟩
  ·subst h
   dsimp only
   have e3:vf a.2.2.2.2.1=some a.2.2.2.2.1:=fy _ _ hb.2.2
   rw[e3,Option.bind_some]
   refine bQ.2 (W.ct (ck (L:=ot) rfl (CT (fun d=>∃z,d=(i,u,m,l,k,a.1,y1,(),fs,s,w,z)) fun r=>r= .inl ((),())) a.2.2.2.2.1.length (fun c(z:Zy)=>((a.2.2.2.2.1.length:Int),(c:Int),i,u,m,l,k,a.1,y1,a.2.2.2.2.2,fs,s,V,w,z)) (fun _ z=>z.length=a.2.2.2.2.1.length) ?step ?stop _ 0 a.2.2.2.2.1 (by omega) (by omega) rfl) (fun d ⟨z,h⟩=>?_) fun r h=>?_)
   case step=>
    intro rec c z hc hI kk
    dsimp only
    have hz:(c:Int)<(z.length:Int):=by omega
    have hw:aV ((c:Int)+(1:Int))=((c+1:Nat):Int):=aJ (by omega)
    rw[if_pos (decide_eq_true (by omega)),if_pos y0,if_pos yK,if_pos (Int.natCast_nonneg c),if_pos hz]
    refine findU _ ⟨_,rfl,rfl⟩ fun x=>?_
    rw[if_pos (Int.natCast_nonneg c),if_pos hz]
    generalize hZ:List.set z _ _=Z
    have hZl:Z.length=a.2.2.2.2.1.length:=by rw[←hZ,List.length_set];exact hI
    clear hZ
    rw[if_pos (Int.natCast_nonneg c),if_pos (show(c:Int)<(Z.length:Int) by omega)]
    refine i7.2 ((nTerm4 (Int.toNat (c:Int)) Z V i u m l k a.1 y1 a.2.2.2.2.2 fs s w s.length (by rw[Int.toNat_natCast];omega) hVR hVS).st (fun _ _=>⟨_,rfl,rfl⟩) fun r ⟨w2,hr,hw2⟩=>?_)
    subst hr
    rw[hw]
    exact kk w2 (hw2.trans hZl)
   case stop=>
    intro rec z hI
    dsimp only
    rw[if_neg (by simp only[decide_eq_true_eq];omega)]
    exact⟨_,rfl,z,rfl⟩
   ·subst h
    exact⟨_,rfl,_,_,_,_,_,_,rfl⟩
   ·subst h;exact trivial
  ·subst h;exact trivial
 ·subst h;exact trivial
theorem nConvert_eq(i u m:OM)(l:ZE)(k:Nat)(a:nC)(fs:List OM)(hb:a.2.2.2.2.1.length*56≤aC)(hm:VR fs.length (bT m)):W (pC i u m l k a fs) (ST (fun _=>True) fun r=>∃x1 x2 x3 x4 x5 x6,r=(i,u,m,l,k,x1,x2,x3,x4,x5,fs,x6)):=by
 have hB:=hB
 unfold pC
 refine findW hm ⟨_,rfl,trivial⟩ fun y1 y0 yK=>findW hm ⟨_,rfl,trivial⟩ fun y2 z0 zK=>?_
 have e1:vg a.2.2.2.2.1=some a.2.2.2.2.1:=fy _ _ hb
 rw[e1,Option.bind_some]
 refine bQ.2 (W.ct (ck (L:=qY) rfl (CT (fun d=>∃s,d=(i,u,m,l,k,a.1,a.2.1,y1,y2,a.2.2.2.2.2,fs,s)) fun r=>r= .inl ((),())) a.2.2.2.2.1.length (fun c(s:Zq)=>((a.2.2.2.2.1.length:Int),(c:Int),i,u,m,l,k,a.1,a.2.1,y1,y2,a.2.2.2.2.2,fs,s)) (fun _ s=>s.length=a.2.2.2.2.1.length) ?step ?stop _ 0 a.2.2.2.2.1 (by omega) (by omega) rfl) (fun d ⟨w,h⟩=>?_) fun r h=>?_)
 case step=>
  intro rec c s hc hI kk
  dsimp only
  have hw:aV ((c:Int)+(1:Int))=((c+1:Nat):Int):=aJ (by omega)
  rw[if_pos (decide_eq_true (by omega)),if_pos (Int.natCast_nonneg c),if_pos (show(c:Int)<(s.length:Int) by omega),if_pos y0,if_pos yK]
  refine findU _ ?_ fun x=>?_
  ·rw[if_pos z0,if_pos zK];exact⟨_,rfl,rfl⟩
  ·rw[if_pos z0,if_pos zK]
   refine findU _ ⟨_,rfl,rfl⟩ fun y=>?_
   rw[hw]
   exact kk _ (by rw[List.length_set,List.length_set];exact hI)
 case stop=>
  intro rec s hI
  dsimp only
  rw[if_neg (by simp only[decide_eq_true_eq];omega)]
  exact⟨_,rfl,s,rfl⟩
 ·subst h
  exact⟨_,rfl,_,_,_,_,_,_,rfl⟩
 ·subst h;exact trivial
theorem nPurpose_eq(i u m:OM)(l:Zz)(k:Nat)(a:kY)(fs:List OM)(hb:a.2.1.length*48≤aC)(hm:VR fs.length (bT m)):W (pD i u m l k a fs) (ST (fun _=>True) fun r=>∃x1 x2 x3,r=(i,u,m,l,k,x1,x2,fs,x3)):=by
 have hB:=hB
 unfold pD
 have e1:vj a.2.1=some a.2.1:=fy _ _ hb
 rw[e1,Option.bind_some]
 refine bQ.2 (W.ct (ck (L:=qZ) rfl (CT (fun d=>∃s,d=(i,u,m,l,k,a.1,a.2.2,fs,s)) fun r=>r= .inl ((),())) a.2.1.length (fun c(s:List lN)=>((a.2.1.length:Int),(c:Int),i,u,m,l,k,a.1,a.2.2,fs,s)) (fun _ s=>s.length=a.2.1.length) ?step ?stop _ 0 a.2.1 (by omega) (by omega) rfl) (fun d ⟨w,h⟩=>?_) fun r h=>?_)
 case step=>
  intro rec c s hc hI kk
  dsimp only
  have hw:aV ((c:Int)+(1:Int))=((c+1:Nat):Int):=aJ (by omega)
  rw[if_pos (decide_eq_true (by omega)),if_pos (Int.natCast_nonneg c),if_pos (show(c:Int)<(s.length:Int) by omega)]
  refine bQ.2 (findW hm ⟨_,rfl,rfl⟩ fun x x0 xK=>⟨_,rfl,?_⟩)
  rw[fU]
  generalize hM:List.set _ _ _=M
  have hg:(List.getD M (Int.toNat (c:Int)) (Ty.aB dz)).2.2.1=x:=by rw[←hM,getD_set_self (by rw[Int.toNat_natCast];omega)]
  have hM':M.length=a.2.1.length:=by rw[←hM,List.length_set];exact hI
  clear hM
  dsimp only
  rw[hg,if_pos x0,if_pos xK]
  refine findU _ ⟨_,rfl,rfl⟩ fun y=>?_
  rw[hw]
  exact kk _ (by rw[List.length_set];exact hM')
 case stop=>
  intro rec s hI
  dsimp only
  rw[if_neg (by simp only[decide_eq_true_eq];omega)]
  exact⟨_,rfl,s,rfl⟩
 ·subst h
  exact⟨_,rfl,_,_,_,rfl⟩
 ·subst h;exact trivial
structure BS(s:cK):Prop where
 issuers:s.1.length*16≤aC
 units:s.2.1.length*56≤aC
 schemas:s.2.2.1.length*96≤aC
 rules:s.2.2.2.1.length*96≤aC
 converts:s.2.2.2.2.1.length*72≤aC
 purposes:s.2.2.2.2.2.1.length*48≤aC
 sch:∀x∈s.2.2.1,BSch x
 rl:∀x∈s.2.2.2.1,BRule x
 cv:∀x∈s.2.2.2.2.1,x.2.2.2.2.1.length*56≤aC
 pu:∀x∈s.2.2.2.2.2.1,x.2.1.length*48≤aC
def TailP{α:Type}(P:α→Prop)(c:Nat)(l:List α):Prop:=∀j(h:j<l.length),c≤j→P l[j]
theorem TailP.of{α:Type}{P:α→Prop}{l:List α}(h:∀x∈l,P x):TailP P 0 l:=fun _j hj _=>h _ (List.getElem_mem hj)
theorem TailP.next{α:Type}{P:α→Prop}{c:Nat}{l:List α}(h:TailP P c l)(v:α):TailP P (c+1) (l.set (Int.toNat (c:Int)) v):=fun j hj hc=>by
 have hj':j<l.length:=by rw[List.length_set] at hj;exact hj
 rw[List.getElem_set_ne (by rw[Int.toNat_natCast];omega)]
 exact h j hj' (by omega)
theorem TailP.here{t:Ty}{P:t.den→Prop}{c:Nat}{l:List t.den}(h:TailP P c l)(hc:c<l.length):P (nth t l (c:Int)):=by
 rw[db (t:=t) hc]
 exact h c hc (Nat.le_refl _)
theorem resolve_ans(s:cK)(hs:SS s)(hb:BS s):W (f80 s) fun _=>True:=by
 have hB:=hB
 obtain⟨tw,i,u,m,fs,e,hi,hu,hm,hl,hf⟩:=gather_eq s hs hb.schemas
 unfold f80
 rw[e,Option.bind_some]
 dsimp only
 split
 ·exact⟨_,rfl,trivial⟩
 ·have e1:ug s.1=some s.1:=fy _ _ hb.issuers
  have e2:uh s.2.1=some s.2.1:=fy _ _ hb.units
  have e3:ui s.2.2.1=some s.2.2.1:=fy _ _ hb.schemas
  have e4:uj s.2.2.2.1=some s.2.2.2.1:=fy _ _ hb.rules
  have e5:uk s.2.2.2.2.1=some s.2.2.2.2.1:=fy _ _ hb.converts
  have e6:um s.2.2.2.2.2.1=some s.2.2.2.2.2.1:=fy _ _ hb.purposes
  rw[e1,Option.bind_some,e2,Option.bind_some,e3,Option.bind_some,e4,Option.bind_some,e5,Option.bind_some,e6,Option.bind_some]
  have k3:=hs.schemas
  have k4:=hs.rules
  have k5:=hs.converts
  have k6:=hs.purposes
  have p3:=TailP.of hb.sch
  have p4:=TailP.of hb.rl
  have p5:=TailP.of hb.cv
  have p6:=TailP.of hb.pu
  have qu:=nUnits_eq i u m s.2.1 fs hs.units hu
  rw[←hl] at hm
  generalize s.1=v1 at*
  generalize s.2.1=v2 at*
  generalize s.2.2.1=v3 at*
  generalize s.2.2.2.1=v4 at*
  generalize s.2.2.2.2.1=v5 at*
  generalize s.2.2.2.2.2.1=v6 at*
  refine i7.2 (qu.st (fun _ _=>⟨_,rfl,trivial⟩) fun r ⟨us,hr⟩=>?_)
  subst hr
  dsimp only
  refine bQ.2 (W.ct (ck (L:=D4) rfl (CT (fun d=>∃p,d=((0:Int),i,u,m,v1,us,p,v4,v5,v6,fs)) fun _=>True) v3.length (fun c(p:ZA)=>((v3.length:Int),(c:Int),(0:Int),i,u,m,v1,us,p,v4,v5,v6,fs)) (fun c p=>p.length=v3.length∧TailP BSch c p) ?step ?stop _ 0 v3 (by omega) (by omega) ⟨rfl,p3⟩) (fun d ⟨w3,h⟩=>?_) fun _ _=>trivial)
  case step=>
   rintro rec c p hc ⟨hp,hT⟩ kk
   dsimp only
   have hcp:c<p.length:=by omega
   have hw:aV ((c:Int)+(1:Int))=((c+1:Nat):Int):=aJ (by omega)
   rw[if_pos (decide_eq_true (by omega)),if_pos (Int.natCast_nonneg c),if_pos (show(c:Int)<(p.length:Int) by omega),if_pos (Int.natCast_nonneg c),if_pos rfl,if_pos (Int.natCast_nonneg c),if_pos (show(c:Int)<(fs.length:Int) by omega)]
   refine i7.2 ((nSchema_eq _ i u m p _ _ fs (hT.here (t:=bB) hcp)).st (fun _ _=>⟨_,rfl,trivial⟩) fun r ⟨x1,x2,x3,x4,x5,x6,x7,hr⟩=>?_)
   subst hr
   rw[hw]
   exact kk _ ⟨by rw[List.length_set];exact hp,hT.next _⟩
  case stop=>
   rintro rec p ⟨hp,hT⟩
   dsimp only
   rw[if_neg (by simp only[decide_eq_true_eq];omega)]
   exact⟨_,rfl,p,rfl⟩
  subst h
  dsimp only
  refine bQ.2 (W.ct (ck (L:=Ba) rfl (CT (fun d=>∃p,d=((0:Int),i,u,m,v1,us,w3,p,v5,v6,fs)) fun _=>True) v4.length (fun c(p:Zm)=>((v4.length:Int),(c:Int),(0:Int),i,u,m,v1,us,w3,p,v5,v6,fs)) (fun c p=>p.length=v4.length∧TailP BRule c p) ?step ?stop _ 0 v4 (by omega) (by omega) ⟨rfl,p4⟩) (fun d ⟨w4,h⟩=>?_) fun _ _=>trivial)
  case step=>
   rintro rec c p hc ⟨hp,hT⟩ kk
   dsimp only
   have hcp:c<p.length:=by omega
   have hw:aV ((c:Int)+(1:Int))=((c+1:Nat):Int):=aJ (by omega)
   rw[if_pos (decide_eq_true (by omega)),if_pos (Int.natCast_nonneg c),if_pos (show(c:Int)<(p.length:Int) by omega),if_pos (Int.natCast_nonneg c),if_pos rfl]
   refine i7.2 ((nRule_eq i u m p _ _ fs (hT.here (t:=bu) hcp) hm).st (fun _ _=>⟨_,rfl,trivial⟩) fun r ⟨x1,x2,x3,x4,x5,x6,hr⟩=>?_)
   subst hr
   rw[hw]
   exact kk _ ⟨by rw[List.length_set];exact hp,hT.next _⟩
  case stop=>
   rintro rec p ⟨hp,hT⟩
   dsimp only
   rw[if_neg (by simp only[decide_eq_true_eq];omega)]
   exact⟨_,rfl,p,rfl⟩
  subst h
  dsimp only
  refine bQ.2 (W.ct (ck (L:=Bb) rfl (CT (fun d=>∃p,d=((0:Int),i,u,m,v1,us,w3,w4,p,v6,fs)) fun _=>True) v5.length (fun c(p:ZE)=>((v5.length:Int),(c:Int),(0:Int),i,u,m,v1,us,w3,w4,p,v6,fs)) (fun c p=>p.length=v5.length∧TailP (fun x:nC=>x.2.2.2.2.1.length*56≤aC) c p) ?step ?stop _ 0 v5 (by omega) (by omega) ⟨rfl,p5⟩) (fun d ⟨w5,h⟩=>?_) fun _ _=>trivial)
  case step=>
   rintro rec c p hc ⟨hp,hT⟩ kk
   dsimp only
   have hcp:c<p.length:=by omega
   have hw:aV ((c:Int)+(1:Int))=((c+1:Nat):Int):=aJ (by omega)
   rw[if_pos (decide_eq_true (by omega)),if_pos (Int.natCast_nonneg c),if_pos (show(c:Int)<(p.length:Int) by omega),if_pos (Int.natCast_nonneg c),if_pos rfl]
   refine i7.2 ((nConvert_eq i u m p _ _ fs (hT.here (t:=dR) hcp) hm).st (fun _ _=>⟨_,rfl,trivial⟩) fun r ⟨x1,x2,x3,x4,x5,x6,hr⟩=>?_)
   subst hr
   rw[hw]
   exact kk _ ⟨by rw[List.length_set];exact hp,hT.next _⟩
  case stop=>
   rintro rec p ⟨hp,hT⟩
   dsimp only
   rw[if_neg (by simp only[decide_eq_true_eq];omega)]
   exact⟨_,rfl,p,rfl⟩
  subst h
  dsimp only
  refine bQ.2 (W.ct (ck (L:=Bc) rfl (CT (fun _=>True) fun _=>True) v6.length (fun c(p:Zz)=>((v6.length:Int),(c:Int),(0:Int),i,u,m,v1,us,w3,w4,w5,p,fs)) (fun c p=>p.length=v6.length∧TailP (fun x:kY=>x.2.1.length*48≤aC) c p) ?step ?stop _ 0 v6 (by omega) (by omega) ⟨rfl,p6⟩) (fun d h=>?_) fun _ _=>trivial)
  case step=>
   rintro rec c p hc ⟨hp,hT⟩ kk
   dsimp only
   have hcp:c<p.length:=by omega
   have hw:aV ((c:Int)+(1:Int))=((c+1:Nat):Int):=aJ (by omega)
   rw[if_pos (decide_eq_true (by omega)),if_pos (Int.natCast_nonneg c),if_pos (show(c:Int)<(p.length:Int) by omega),if_pos (Int.natCast_nonneg c),if_pos rfl]
   refine i7.2 ((nPurpose_eq i u m p _ _ fs (hT.here (t:=cQ) hcp) hm).st (fun _ _=>⟨_,rfl,trivial⟩) fun r ⟨x1,x2,x3,hr⟩=>?_)
   subst hr
   rw[hw]
   exact kk _ ⟨by rw[List.length_set];exact hp,hT.next _⟩
  case stop=>
   rintro rec p ⟨hp,hT⟩
   dsimp only
   rw[if_neg (by simp only[decide_eq_true_eq];omega)]
   exact⟨_,rfl,trivial⟩
  exact⟨_,rfl,trivial⟩
theorem resolved_ans(s:cK)(hs:SS s)(hb:BS s):∃r,f56 s=some r:=by
 obtain⟨⟨a,b⟩,e,_⟩:=resolve_ans s hs hb
 unfold f56
 rw[e,Option.bind_some]
 dsimp only
 obtain⟨q,hq⟩:=same_ans a s hs
 rw[hq,Option.bind_some]
 repeat' (first|exact⟨_,rfl⟩|split)
structure SA(s:cK):Prop where
 ss:SS s
 bs:BS s
 sw:SW s
structure CG(s:cK)(l:Zf):Prop where
 tg:TG s
 rk:Ranked s l
 sw:SW s
theorem lower_eq(s:cK)(hs:SA s):∃r,f36 s=some r∧(r.1=0→r.2.1=s∧CG s r.2.2.1):=by
 have no:∀(x:Int)(y:Cf),(!decide (x=(0:Int)))=true→∃r,some (x,y)=some r∧(r.1=0→r.2.1=s∧CG s r.2.2.1):=fun x y hx=>⟨_,rfl,fun h=>by
  have:x=0:=h
  subst this
  cases hx⟩
 unfold f36
 obtain⟨r1,e1⟩:=resolved_ans s hs.ss hs.bs
 obtain⟨r2,e2,_⟩:=tcheck_eq s hs.sw
 obtain⟨r3,e3⟩:=determined_ans s hs.ss
 obtain⟨r4,e4,m4⟩:=ordered_eq s hs.sw
 obtain⟨r5,e5⟩:=vcheck_ans s hs.sw.nb hs.ss
 rw[e1,Option.bind_some]
 by_cases h1:(!decide (r1=(0:Int)))=true
 ·rw[if_pos h1];exact no _ _ h1
 ·rw[if_neg h1,e2,Option.bind_some]
  by_cases h2:(!decide (r2=(0:Int)))=true
  ·rw[if_pos h2];exact no _ _ h2
  ·rw[if_neg h2,e3,Option.bind_some]
   by_cases h3:(!decide (r3=(0:Int)))=true
   ·rw[if_pos h3];exact no _ _ h3
   ·rw[if_neg h3,e4,Option.bind_some]
    by_cases h4:(!decide (r4=(0:Int)))=true
    ·rw[if_pos h4];exact no _ _ h4
    ·rw[if_neg h4,e5,Option.bind_some]
     by_cases h5:(!decide (r5=(0:Int)))=true
     ·rw[if_pos h5];exact no _ _ h5
     ·rw[if_neg h5,aG]
      obtain⟨hT,l,ho,hR⟩:=m4 (by simpa using h4)
      rw[ho,Option.bind_some]
      exact⟨_,rfl,fun _=>⟨rfl,hT,hR,hs.sw⟩⟩
theorem check_eq(g:Cf)(hs:SA g.1):∃r,f18 g=some r∧(r=0→∃l,CG g.1 l):=by
 obtain⟨⟨r,b⟩,e,hm⟩:=lower_eq g.1 hs
 unfold f18
 rw[e,Option.bind_some]
 dsimp only
 by_cases h:r=0
 ·subst h
  obtain⟨hb,hc⟩:=hm rfl
  have yes:∀y:ZM,(∃z,y=some z)→∃r,y=some r∧(r=0→∃l,CG g.1 l):=fun y ⟨z,hz⟩=>⟨z,hz,fun _=>⟨_,hc⟩⟩
  apply yes
  obtain⟨q,hq⟩:=same_ans b.1 g.1 hs.ss
  obtain⟨q2,hq2⟩:∃r,f63 b.2.1 g.2.1=some r:=Ev (.int .i64) (fun a b=>decide (a=b)) _ _ fun _=>Nat.le_trans hc.rk.len (by have:=hc.tg.many;have:=hB;omega)
  unfold f37
  rw[hq]
  cases q<;>cases q2<;>simp only[Option.bind_some,hq2]<;>simp
 ·refine⟨160,?_,fun h'=>(by cases h')⟩
  rw[if_pos (by simp[h])]
  rfl
end Go.Proofs.YtgdcjlldafmomaaGreat
