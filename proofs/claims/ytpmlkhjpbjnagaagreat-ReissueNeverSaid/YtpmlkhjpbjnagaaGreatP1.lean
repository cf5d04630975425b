/- part -/
import Derived.Test.YtpmlkhjpbjnagaaGreatUO
import Derived.Test.YtpmlkhjpbjnagaaGreatA5
import Derived.Test.YtpmlkhjpbjnagaaGreatF5
noncomputable section
namespace Go.Proofs.YtpmlkhjpbjnagaaGreat
open Go.Ax
theorem hB:aH=140737488355328:=rfl
theorem B8{l:Ze}{i j:Nat}(hi:i<l.length)(hj:j<l.length):lW (i:Int) (j:Int) l=some (decide (l[i]<l[j]),l):=by
 simp_all[lW,cK]
theorem swap_eq{l:Ze}{i j:Nat}(hi:i<l.length)(hj:j<l.length):∃l',lY (i:Int) (j:Int) l=some l'∧l'.Perm l:=by
 simp_all[List.set_set_perm,lY,cK]
theorem upL:∀(n c:Nat)(d:Ze),c<n→c<d.length→d.length≤aH→W (pY n ((c:Int),d)) (CT (fun d'=>d'.Perm d) fun _=>False):=by
 intro n
 induction n with
 |zero=>grind
 |
  succ n ih=>
  intro c d hn hc hb
  unfold pY at ih ⊢
  rw[aN]
  generalize aL _ n=rec at ih ⊢
  have hB:=hB
  dsimp only
  cases c with
  |
   zero=>
   rw[aA (by decide)]
   exact pz.2 (iG.2 (List.Perm.refl _))
  |
   succ c=>
   have e1:bq (((c+1:Nat):Int) -1)=(c:Int):=by rw[ik (by omega) (by omega)];omega
   have e2:bq (Int.tdiv (c:Int) 2)=((c / 2:Nat):Int):=by
    have:Int.tdiv (c:Int) 2=((c / 2:Nat):Int):=rfl
    rw[this,ik (by omega) (by omega)]
   rw[e1,e2,aC (by grind),B8 hc (by omega),aM]
   dsimp only
   by_cases hl:d[c+1]<d[c / 2]
   ·rw[aC (by simp[hl])]
    obtain⟨l',e,p⟩:=swap_eq (l:=d) (i:=c / 2) (j:=c+1) (by omega) hc
    rw[e,aM]
    exact(ih (c / 2) l' (by omega) (by rw[p.length_eq];omega) (by rw[p.length_eq];exact hb)).ct (fun _ h=>h.trans p) fun _ h=>h
   simp_all[pz,iG]
theorem I7{a:Int}{l:Ze}(h:(l.length+1)*8≤aH):∃q,rN a l=some q∧q.Perm (a::l):=by
 have hB:=hB
 have e1:BI a l=some (l++[a]):=aA h
 have e2:rM (l++[a])=some (((l++[a]).length:Int),l++[a]):=rfl
 have hl:(l++[a]).length=l.length+1:=by grind
 have e3:bq (((l++[a]).length:Int) -1)=(l.length:Int):=by grind [ik]
 obtain⟨o,ho,hp⟩:=upL iB l.length (l++[a]) (sM (by omega)) (by omega) (by omega)
 unfold rN
 rw[e1,aM,e2,aM]
 dsimp only
 rw[e3]
 unfold BH
 rw[ho]
 cases o with
 |brk d=>exact⟨d,rfl,(show d.Perm (l++[a]) from hp).trans (List.perm_append_singleton a l)⟩
 |ret r=>trivial
theorem aak:∀(m:Nat)(q:Int)(o p:Nat)(r:Ze),o -p<m→p≤o→o≤r.length→r.length≤aH→
 W (py m (q,(o:Int),(p:Int),r)) (CT (fun u=>u.2.2.Perm r) fun _=>False):=by
 intro m
 induction m with
 |zero=>grind
 |
  succ m ih=>
  intro q o p r hm hpo hor hb
  unfold py at ih ⊢
  rw[aN]
  generalize aL _ m=rec at ih ⊢
  have hB:=hB
  dsimp only
  have e0:bq ((2:Int)*(p:Int))=((2*p:Nat):Int):=by rw[ik (by omega) (by omega)];omega
  have e1:bq (((2*p:Nat):Int)+1)=((2*p+1:Nat):Int):=by rw[ik (by omega) (by omega)];omega
  rw[e0,e1]
  by_cases h1:o≤2*p+1
  ·rw[aA (show decide ((o:Int)≤((2*p+1:Nat):Int))=true by grind),aM,aA rfl]
   exact pz.2 (iG.2 (List.Perm.refl _))
  ·rw[aC (show¬decide ((o:Int)≤((2*p+1:Nat):Int))=true by grind),aM,aC (by grind),aG]
   dsimp only
   have e2:bq (((2*p+1:Nat):Int)+1)=((2*p+2:Nat):Int):=by rw[ik (by omega) (by omega)];omega
   rw[e2]
   have key:∀j:Nat,p<j→j<o→W ((lW (j:Int) (p:Int) r).bind fun⟨m',n⟩=>if !m' then(some (.brk (q,(p:Int),n))) else((lY (p:Int) (j:Int) n).bind fun y9=>rec (q,(o:Int),(j:Int),y9))) (CT (fun u:Int×Int×Ze=>u.2.2.Perm r) fun _:Bool×Ze=>False):=by
    intro j hj1 hj2
    rw[B8 (by omega) (by omega),aM]
    dsimp only
    split
    ·exact pz.2 (iG.2 (List.Perm.refl _))
    ·obtain⟨l',e,pm⟩:=swap_eq (l:=r) (i:=p) (j:=j) (by omega) (by omega)
     rw[e,aM]
     exact(ih q o j l' (by omega) (by omega) (by rw[pm.length_eq];omega) (by rw[pm.length_eq];exact hb)).ct (fun _ h=>h.trans pm) fun _ h=>h
   by_cases h2:2*p+2<o
   ·rw[aA (show decide (((2*p+2:Nat):Int)<(o:Int))=true by grind),B8 (by omega) (by omega),aM]
    grind [aG]
   ·rw[aC (show¬decide (((2*p+2:Nat):Int)<(o:Int))=true by grind),aG]
    exact key _ (by omega) (by omega)
theorem Wa{l:Ze}(hne:l≠[])(hb:l.length≤aH):∃x q,jv l=some (x,q)∧(x::q).Perm l:=by
 have hB:=hB
 have hpos:0<l.length:=List.length_pos_iff.2 hne
 obtain⟨n,hn⟩:∃n,l.length=n+1:=⟨l.length -1,by omega⟩
 have e2:rM l=some ((l.length:Int),l):=rfl
 have e3:bq ((l.length:Int) -1)=(n:Int):=by grind [ik]
 obtain⟨l',e4,p4⟩:=swap_eq (l:=l) (i:=0) (j:=n) (by omega) (by omega)
 have hl':l'.length=n+1:=by rw[p4.length_eq,hn]
 obtain⟨o,ho,hp⟩:=aak iB 0 n 0 l' (sM (by omega)) (by omega) (by omega) (by omega)
 cases o with
 |ret r=>trivial
 |
  brk d=>
  obtain⟨d1,d2,c⟩:=d
  have pc:c.Perm l':=hp
  have hc:c.length=n+1:=by rw[pc.length_eq,hl']
  have e5:uU 0 (n:Int) l'=some (decide (d1<d2),c):=by
   grind [uU,aG]
  have e6:uV c=some (c[n]'(by omega),c.take n):=by
   have h7:bq ((c.length:Int) -1)=(n:Int):=by grind
   have h8:(n:Int)<(c.length:Int):=by omega
   have h9:(n:Int)≤(c.length:Int):=by omega
   simp_all[uV,cK]
  refine⟨c[n]'(by omega),c.take n,?_,?_⟩
  ·grind [jv]
  grind [kH,ma]
variable{α:Type}
theorem pg:∀{l:List α}{i:Nat}(h:i<l.length),(l[i]::l.eraseIdx i).Perm l
 |x::l,0,_=>List.Perm.refl _
 |
  x::l,i+1,h=>by
  have h':i<l.length:=by rw[gP] at h;omega
  exact(List.Perm.swap x l[i] _).trans ((pg h').cons x)
def nd(g:dN)(h:Int):Zu:=aX (aP (.int .i64) (.map (.int .i64) .bool) h (aX g.2.1))
def ks(g:dN)(h:Int):Ze:=(nd g h).map (·.1)
def kq(e:ZY)(k:Ze)(f:Int):ZY:=e.mapIdx fun j row=>if(j:Int)∈k then row++[f] else row
theorem oL(e:ZY)(k:Ze)(f:Int):(kq e k f).length=e.length:=by unfold kq;grind
theorem J6(e:ZY)(f:Int):kq e [] f=e:=by
 refine List.ext_getElem (oL e [] f) fun j h1 h2=>?_
 simp only[kq,List.getElem_mapIdx,List.not_mem_nil,dB]
theorem En{e:ZY}{k k':Ze}{f:Int}(h:∀x,x∈k↔x∈k'):kq e k f=kq e k' f:=by
 grind [kq]
theorem J7{e:ZY}{k:Ze}{f:Int}{x:Nat}(hx:x<e.length)(hk:(x:Int)∉k):kq (e.set x (e.getD x []++[f])) k f=kq e ((x:Int)::k) f:=by
 refine List.ext_getElem (by grind [oL]) fun j h1 h2=>?_
 have hj:j<e.length:=by rw[oL] at h2;exact h2
 simp only[kq,List.getElem_mapIdx,List.getElem_set,fg]
 grind
theorem aal(f b c:Int)(d:dN):∀(n:Nat)(a:Zu)(e:ZY),a.length<n→(a.map (·.1)).Nodup→(∀x∈a.map (·.1),0≤x∧x<(e.length:Int))→(∀x:Nat,(x:Int)∈a.map (·.1)→((e.getD x []).length+1)*8≤aH)→
 il n (f,b,c,d,e,a)=some (.brk (b,c,d,kq e (a.map (·.1)) f)):=by
 intro n
 induction n with
 |zero=>grind
 |
  succ n ih=>
  intro a e hn hd hr hs
  unfold il at ih ⊢
  rw[aN]
  generalize aL _ n=rec at ih ⊢
  dsimp only
  cases hA:a with
  |
   nil=>
   simp_all[J6]
  |
   cons y l=>
   rw[←hA,aC (by grind)]
   refine qT (by grind) fun i hi=>?_
   have p:=pg hi
   have pm:=p.map (·.1)
   have hd':((a[i]::a.eraseIdx i).map (·.1)).Nodup:=pm.nodup_iff.2 hd
   rw[dA,kM] at hd'
   have hmem:a[i].1∈a.map (·.1):=List.mem_map_of_mem (eT hi)
   obtain⟨h0,h1⟩:=hr _ hmem
   obtain⟨x,hx⟩:∃x:Nat,a[i].1=(x:Int):=⟨a[i].1.toNat,by omega⟩
   have hxl:x<e.length:=by omega
   rw[hx] at h0 h1 hd' hmem ⊢
   have hs1:=hs x hmem
   have hsz:(List.length (List.getD e x [])+List.length [f])*8≤aH:=hs1
   simp only[h0,h1,cj,jF,aA hsz]
   rw[ih]
   ·rw[J7 hxl hd'.1]
    refine congrArg (fun z=>some (cL.brk (b,c,d,z))) (En fun z=>?_)<;>grind
   ·grind [gP]
   ·grind
   ·grind
   ·intro z hz
    have hne:x≠z:=fun h=>hd'.1 (h▸hz)
    grind
structure GG(g:dN)(m:Nat):Prop where
 many:g.1=(m:Int)
 small:m≤1000000
 nodup:∀h,(ks g h).Nodup
 range:∀h x,x∈ks g h→0≤x∧x<(m:Int)
def us(g:dN)(m e:Nat):ZY:=(List.range m).map fun j:Nat=>((List.range e).filter fun h:Nat=>decide ((j:Int)∈ks g (h:Int))).map fun h:Nat=>(h:Int)
theorem xQ(g:dN)(m e:Nat):(us g m e).length=m:=by simp[us]
theorem SD(g:dN)(m e:Nat):kq (us g m e) (ks g (e:Int)) (e:Int)=us g m (e+1):=by
 refine List.ext_getElem (by rw[oL,xQ,xQ]) fun j h1 h2=>?_
 simp only[kq,us,List.getElem_mapIdx,List.getElem_map,List.getElem_range,List.range_succ,List.filter_append,gi,wa,List.filter_nil]
 grind
theorem SE(g:dN)(m:Nat):us g m 0=List.replicate m []:=by
 grind [List.ext_getElem,xQ,tG,us]
theorem Wb{g:dN}{m e x:Nat}:((us g m e).getD x []).length≤e:=by
 grind [us]
theorem aam{g:dN}{m:Nat}(hg:GG g m):∀(n e:Nat),m -e<n→e≤m→jx n ((m:Int),(e:Int),g,us g m e)=some (.brk (us g m m)):=by
 intro n
 have hB:=hB
 have hsm:=hg.small
 induction n with
 |zero=>grind
 |
  succ n ih=>
  intro e hn he
  unfold jx at ih ⊢
  rw[aN]
  generalize aL _ n=rec at ih ⊢
  dsimp only
  by_cases h:e<m
  ·rw[aA (show decide ((e:Int)<(m:Int))=true by grind)]
   have key:=aal (e:Int) (m:Int) (e:Int) g ((nd g (e:Int)).length+1) (nd g (e:Int)) (us g m e) (by omega) (hg.nodup _) (fun x hx=>by rw[xQ];exact hg.range _ x hx) (fun x _=>by grind [Wb])
   unfold nd at key
   rw[key,aG]
   dsimp only
   rw[show bq ((e:Int)+1)=((e+1:Nat):Int) from aY (by omega),show kq (us g m e) ((aX (aP (.int .i64) (.map (.int .i64) .bool) (e:Int) (aX g.2.1))).map (·.1)) (e:Int)=us g m (e+1) from SD g m e]
   grind
  grind
theorem NI{g:dN}{m:Nat}(hg:GG g m):f202 g=some (us g m m):=by
 have hB:=hB
 have hsm:=hg.small
 unfold f202
 rw[hg.many,dV m,aA (mL _),aA (by omega),jF,←SE g]
 have:=aam hg (m+1) 0 (by omega) (by omega)
 grind [aG]
theorem gB:∀(m:Nat)(l:Ze),l.Nodup→(∀x∈l,0≤x∧x<(m:Int))→l.length≤m:=by
 intro m
 induction m with
 |
  zero=>
  intro l _ h
  cases l with
  |nil=>grind
  |cons x l=>grind [cm]
 |
  succ m ih=>
  intro l hd h
  by_cases hm:(m:Int)∈l
  ·have h1:=ih (l.erase (m:Int)) (hd.erase _) fun x hx=>by
    grind
   grind
  grind
def GS(g:dN)(out:Ze)(h:Int):Nat:=((ks g h).filter fun x=>decide (x∉out)).length
theorem I8(g:dN)(h:Int):GS g [] h=(ks g h).length:=by simp[GS]
theorem Wc{g:dN}{m:Nat}(hg:GG g m)(out:Ze)(h:Int):GS g out h≤m:=
 dh (yO _ _) (gB m _ (hg.nodup h) (hg.range h))
theorem GU:∀(l:Ze)(out:Ze)(x:Int),l.Nodup→x∉out→
 (l.filter fun z=>decide (z∉out)).length=(l.filter fun z=>decide (z∉out++[x])).length+(if x∈l then 1 else 0):=by
 intro l
 induction l with
 |nil=>grind
 |
  cons y l ih=>
  grind
variable{h:Int}{out:Ze}
theorem I9{g:dN}{m:Nat}(hg:GG g m){x:Int}(hx:x∉out):GS g out h=GS g (out++[x]) h+if x∈ks g h then 1 else 0:=
 GU _ _ _ (hg.nodup h) hx
abbrev Yc(y:YC):ZK:=fun d=>gK y d.1 d.2.1 d.2.2.1 d.2.2.2.1 d.2.2.2.2.1
theorem aan(y:YC)(x:Int)(acc:Ze)(h:(acc.length+1)*8≤aH):gK y x y 0 (y.gs 1) acc=some (true,y,0,y.gs 1,acc++[x]):=by
 simp_all[gK,gv]
structure L3(g:dN)(m a:Nat)(c e:Ze):Prop where
 len:c.length=m
 num:∀h<a,c[h]? =some ((ks g (h:Int)).length:Int)
 i7:e.Nodup
 mem:∀x,x∈e↔∃h:Nat,h<a∧x=(h:Int)∧(ks g (h:Int)).length=0
theorem aao{g:dN}{m:Nat}(hg:GG g m)(U:ZY):∀(n a:Nat)(c e:Ze),m -a<n→a≤m→L3 g m a c e→
 ∃c' e',L3 g m m c' e'∧∀(y:YC)(k:Ze),eB y.l (Yc y) n (y.l,g,U,(m:Int),(a:Int),y,0,y.gs 1,k,c,e)=some (.brk (y.l,U,y,0,y.gs 1,k,c',e')):=by
 intro n
 have hB:=hB
 have hsm:=hg.small
 induction n with
 |zero=>grind
 |
  succ n ih=>
  intro a c e hn ha hL
  have hstep:∀y k,eB y.l (Yc y) (n+1) (y.l,g,U,(m:Int),(a:Int),y,0,y.gs 1,k,c,e)=_:=fun y k=>by unfold eB;rw[aN]
  by_cases h:a<m
  ·have hl:a<c.length:=by rw[hL.len];exact h
   have d1:decide ((a:Int)<(m:Int))=true:=by simp only[j5];omega
   have d2:((a:Int)<(c.length:Int))=True:=by simp only[eq_iff_iff,iff_true];omega
   have e0:(List.length (aX (aP (.int .i64) (.map (.int .i64) .bool) (a:Int) (aX g.2.1))):Int)=((ks g (a:Int)).length:Int):=by simp[ks,nd]
   generalize hc2:c.set a ((ks g (a:Int)).length:Int)=c2
   have hc2l:c2.length=m:=by rw[←hc2,jj,hL.len]
   have amX:nth (.int .i64) c2 (a:Int)=((ks g (a:Int)).length:Int):=by
    rw[cK (t:=.int .i64) (show a<c2.length by omega)]
    subst hc2
    exact List.getElem_set_self ..
   have d3:((a:Int)<(c2.length:Int))=True:=by simp only[eq_iff_iff,iff_true];omega
   have hnum:∀z<a+1,c2[z]? =some ((ks g (z:Int)).length:Int):=by
    intro z hz
    subst hc2
    by_cases hza:z=a
    ·subst hza
     rw[List.getElem?_set_self hl]
    ·rw[List.getElem?_set_ne (Ne.symm hza)]
     exact hL.num z (by omega)
   have hw:bq ((a:Int)+1)=((a+1:Nat):Int):=aY (by omega)
   by_cases hz:(ks g (a:Int)).length=0
   ·have hle:e.length≤m:=gB m e hL.i7 fun x hx=>by
     obtain⟨h',h1,h2,_⟩:=(hL.mem x).1 hx
     omega
    obtain⟨e2,he2,p⟩:=I7 (a:=(a:Int)) (l:=e) (by omega)
    have hna:(a:Int)∉e:=fun hm=>by
     obtain⟨h',h1,h2,_⟩:=(hL.mem _).1 hm
     omega
    obtain⟨c',e',hL',hf⟩:=ih (a+1) c2 e2 (by omega) (by omega) ⟨hc2l,hnum,p.nodup_iff.2 (List.nodup_cons.2 ⟨hna,hL.i7⟩),fun x=>by
     rw[p.mem_iff,fg,hL.mem]
     constructor
     ·rintro(rfl|⟨h',h1,h2,h3⟩)
      ·exact⟨a,by omega,rfl,hz⟩
      ·exact⟨h',by omega,h2,h3⟩
     ·rintro⟨h',h1,h2,h3⟩
      by_cases hh:h'=a
      ·subst hh;exact Or.inl h2
      ·exact Or.inr ⟨h',by omega,h2,h3⟩⟩
    refine⟨c',e',hL',fun y k=>?_⟩
    rw[hstep]
    have hf:=hf y k
    unfold eB at hf
    have d4:decide (((ks g (a:Int)).length:Int)=(0:Int))=true:=by rw[hz];rfl
    simp only[d1,dE,d2,e0,jF,hc2,d3,amX,d4,cj,he2,aM,hw]
    exact hf
   ·obtain⟨c',e',hL',hf⟩:=ih (a+1) c2 e (by omega) (by omega) ⟨hc2l,hnum,hL.i7,fun x=>by
     rw[hL.mem]
     constructor
     ·grind
     grind⟩
    refine⟨c',e',hL',fun y k=>?_⟩
    rw[hstep]
    have hf:=hf y k
    unfold eB at hf
    have d4:decide (((ks g (a:Int)).length:Int)=(0:Int))=false:=du (by omega)
    simp only[d1,dE,d2,e0,jF,hc2,d3,amX,d4,cj,eM,dB,hw]
    exact hf
  grind
structure L13(m:Nat)(row:Ze)(op0:Nat→Nat)(q0:Ze)(a:Nat)(d e:Ze):Prop where
 len:d.length=m
 num:∀h<m,d[h]? =some ((op0 h:Int) -if(h:Int)∈row.take a then 1 else 0)
 i7:e.Nodup
 mem:∀x,x∈e↔x∈q0∨∃h:Nat,x=(h:Int)∧(h:Int)∈row.take a∧op0 h=1
theorem We{g:dN}{m:Nat}(hg:GG g m)(U:ZY)(row:Ze)(op0:Nat→Nat)(q0:Ze)
 (hrd:row.Nodup) (hrr:∀x∈row,∃h:Nat,h<m∧x=(h:Int)∧1≤op0 h∧x∉q0) (hop:∀h,op0 h≤m) (hq:∀x∈q0,0≤x∧x<(m:Int)):
 ∀(n a:Nat)(d e:Ze),row.length -a<n→a≤row.length→L13 m row op0 q0 a d e→
 ∃d' e',L13 m row op0 q0 row.length d' e'∧∀(y:YC)(k:Ze),da y.l (Yc y) n (y.l,U,row,(row.length:Int),(a:Int),y,0,y.gs 1,d,k,e)=some (.brk (y.l,U,y,0,y.gs 1,d',k,e')):=by
 intro n
 have hB:=hB
 have hsm:=hg.small
 have hrl:row.length≤m:=gB m row hrd fun x hx=>by grind
 induction n with
 |zero=>grind
 |
  succ n ih=>
  intro a d e hn ha hL
  have hstep:∀y k,da y.l (Yc y) (n+1) (y.l,U,row,(row.length:Int),(a:Int),y,0,y.gs 1,d,k,e)=_:=fun y k=>by unfold da;rw[aN]
  by_cases h:a<row.length
  ·have d2:((a:Int)<(row.length:Int))=True:=by simp only[eq_iff_iff,iff_true];omega
   obtain⟨u,hu,hru,hu1,huq⟩:=hrr row[a] (eT h)
   have hn1:nth (.int .i64) row (a:Int)=(u:Int):=by rw[cK (t:=.int .i64) h,hru]
   have hul:u<d.length:=by rw[hL.len];exact hu
   have hnt:(u:Int)∉row.take a:=fun hm=>by
    have h1:=kH a row
    rw[←h1,j7] at hrd
    have h2:(u:Int)∈row.drop a:=by rw[ma h,hru];exact cm ..
    exact hrd.2.2 _ hm _ h2 rfl
   have hdu:nth (.int .i64) d (u:Int)=(op0 u:Int):=by
    rw[cK (t:=.int .i64) hul]
    have:=hL.num u hu
    rw[yP hul,aC hnt,Int.sub_zero] at this
    exact kN this
   have hw1:bq ((op0 u:Int) -1)=(op0 u:Int) -1:=ik (by omega) (by have:=hop u;omega)
   have d3:((u:Int)<(d.length:Int))=True:=by simp only[eq_iff_iff,iff_true];omega
   generalize hc2:d.set u ((op0 u:Int) -1)=d2'
   have hc2l:d2'.length=m:=by rw[←hc2,jj,hL.len]
   have d4:((u:Int)<(d2'.length:Int))=True:=by simp only[eq_iff_iff,iff_true];omega
   have amX:nth (.int .i64) d2' (u:Int)=(op0 u:Int) -1:=by
    rw[cK (t:=.int .i64) (show u<d2'.length by omega)]
    subst hc2
    exact List.getElem_set_self ..
   have htk:∀z:Int,z∈row.take (a+1)↔z∈row.take a∨z=(u:Int):=fun z=>by
    rw[List.take_succ_eq_append_getElem h,jb,mJ,hru]
   have hnum:∀z<m,d2'[z]? =some ((op0 z:Int) -if(z:Int)∈row.take (a+1) then 1 else 0):=by
    intro z hz
    subst hc2
    by_cases hzu:z=u
    ·subst hzu
     rw[List.getElem?_set_self hul,aA ((htk _).2 (Or.inr rfl))]
    ·rw[List.getElem?_set_ne (Ne.symm hzu),hL.num z hz]
     have:((z:Int)∈row.take (a+1))=((z:Int)∈row.take a):=by
      rw[eq_iff_iff,htk]
      exact⟨fun h=>h.resolve_right (by omega),Or.inl⟩
     simp only[this]
   have hw:bq ((a:Int)+1)=((a+1:Nat):Int):=aY (by omega)
   by_cases hz:op0 u=1
   ·have hna:(u:Int)∉e:=fun hm=>by
     rcases(hL.mem _).1 hm with h1|⟨h',h1,h2,_⟩
     ·exact huq (hru▸h1)
     ·have:h'=u:=by omega
      subst this;exact hnt h2
    have hle:e.length≤m:=gB m e hL.i7 fun x hx=>by
     rcases(hL.mem x).1 hx with h1|⟨h',h1,h2,_⟩
     ·exact hq x h1
     ·obtain⟨h'',h3,h4,_⟩:=hrr _ (List.mem_of_mem_take h2)
      omega
    obtain⟨e2,he2,p⟩:=I7 (a:=(u:Int)) (l:=e) (by omega)
    obtain⟨d',e',hL',hf⟩:=ih (a+1) d2' e2 (by omega) (by omega) ⟨hc2l,hnum,p.nodup_iff.2 (List.nodup_cons.2 ⟨hna,hL.i7⟩),fun x=>by
     rw[p.mem_iff,fg,hL.mem]
     constructor
     ·rintro(rfl|h1|⟨h',h1,h2,h3⟩)
      ·exact Or.inr ⟨u,rfl,(htk _).2 (Or.inr rfl),hz⟩
      ·exact Or.inl h1
      ·exact Or.inr ⟨h',h1,(htk _).2 (Or.inl h2),h3⟩
     ·rintro(h1|⟨h',h1,h2,h3⟩)
      ·exact Or.inr (Or.inl h1)
      ·rcases(htk _).1 h2 with h2|h2
       ·exact Or.inr (Or.inr ⟨h',h1,h2,h3⟩)
       ·exact Or.inl (h1.trans h2)⟩
    refine⟨d',e',hL',fun y k=>?_⟩
    rw[hstep]
    have hf:=hf y k
    unfold da at hf
    have d5:decide ((op0 u:Int) -1=(0:Int))=true:=cE (by omega)
    simp only[dE,d2,hn1,hdu,hw1,d3,jF,hc2,d4,amX,d5,cj,he2,aM,hw]
    exact hf
   ·obtain⟨d',e',hL',hf⟩:=ih (a+1) d2' e (by omega) (by omega) ⟨hc2l,hnum,hL.i7,fun x=>by
     rw[hL.mem]
     constructor
     ·rintro(h1|⟨h',h1,h2,h3⟩)
      ·exact Or.inl h1
      ·exact Or.inr ⟨h',h1,(htk _).2 (Or.inl h2),h3⟩
     ·rintro(h1|⟨h',h1,h2,h3⟩)
      ·exact Or.inl h1
      ·rcases(htk _).1 h2 with h2|h2
       ·exact Or.inr ⟨h',h1,h2,h3⟩
       ·have:h'=u:=by omega
        subst this;omega⟩
    refine⟨d',e',hL',fun y k=>?_⟩
    rw[hstep]
    have hf:=hf y k
    unfold da at hf
    have d5:decide ((op0 u:Int) -1=(0:Int))=false:=du (by omega)
    simp only[dE,d2,hn1,hdu,hw1,d3,jF,hc2,d4,amX,d5,cj,eM,dB,hw]
    exact hf
  ·have:a=row.length:=by omega
   subst this
   grind
structure KI(g:dN)(m:Nat)(q out op:Ze):Prop where
 len:op.length=m
 num:∀h<m,op[h]? =some (GS g out (h:Int):Int)
 i7:(q++out).Nodup
 Cq:∀x∈q++out,0≤x∧x<(m:Int)
 zero:∀h:Nat,h<m→((h:Int)∈q++out↔GS g out (h:Int)=0)
 pre:∀i(hi:i<out.length),∀x∈ks g out[i],x∈out.take i
structure KO(g:dN)(m:Nat)(out:Ze):Prop where
 i7:out.Nodup
 Cq:∀x∈out,0≤x∧x<(m:Int)
 pre:∀i(hi:i<out.length),∀x∈ks g out[i],x∈out.take i
theorem Wf{g:dN}{m x:Nat}(hx:x<m):nth (.slice 8 (.int .i64)) (us g m m) (x:Int)=((List.range m).filter fun h:Nat=>decide ((x:Int)∈ks g (h:Int))).map fun h:Nat=>(h:Int):=by
 grind [cK,us]
theorem aap{g:dN}{m:Nat}(hg:GG g m):∀(n:Nat)(q out op:Ze),m -out.length<n→KI g m q out op→
 ∃out',KO g m out'∧∀y:YC,dS y.l (Yc y) n (y.l,us g m m,y,0,y.gs 1,op,q,out)=some (.brk (y,0,y.gs 1,out')):=by
 intro n
 have hB:=hB
 have hsm:=hg.small
 induction n with
 |zero=>grind
 |
  succ n ih=>
  intro q out op hn hK
  have hstep:∀y,dS y.l (Yc y) (n+1) (y.l,us g m m,y,0,y.gs 1,op,q,out)=_:=fun y=>by unfold dS;rw[aN]
  have hqn:q.Nodup:=(List.nodup_append.1 hK.i7).1
  have hon:out.Nodup:=(List.nodup_append.1 hK.i7).2.1
  have hdis:=(List.nodup_append.1 hK.i7).2.2
  have hor:∀x∈out,0≤x∧x<(m:Int):=fun x hx=>hK.Cq x (kK _ hx)
  by_cases hq:q= []
  ·subst hq
   refine⟨out,⟨hon,hor,hK.pre⟩,fun y=>?_⟩
   rw[hstep]
   have e1:f204 []=some (0:Int):=rfl
   simp only[e1,aM,show decide ((0:Int)<0)=false from rfl,eM,dB]
  ·have hql:q.length≤m:=gB m q hqn fun x hx=>hK.Cq x (j4 _ hx)
   obtain⟨x0,q1,hpop,p⟩:=Wa hq (by omega)
   have hxq:x0∈q:=p.mem_iff.1 (cm ..)
   obtain⟨x,hx,rfl⟩:∃x:Nat,x<m∧x0=(x:Int):=by
    have:=hK.Cq x0 (j4 _ hxq)
    exact⟨x0.toNat,by omega,by omega⟩
   have hpn:=List.nodup_cons.1 (p.nodup_iff.2 hqn)
   have hxo:(x:Int)∉out:=fun h=>hdis _ hxq _ h rfl
   have hx0:GS g out (x:Int)=0:=(hK.zero x hx).1 (j4 _ hxq)
   have hol:(out++[(x:Int)]).length≤m:=gB m _ (by
    rw[j7]
    refine⟨hon,by simp,fun a ha b hb=>?_⟩
    rw[mJ] at hb
    subst hb
    exact fun e=>hxo (e▸ha)) fun z hz=>by
    rcases List.mem_append.1 hz with h|h
    ·exact hor z h
    ·rw[mJ] at h;omega
   rw[kG,kJ] at hol
   generalize hrow:(((List.range m).filter fun h:Nat=>decide ((x:Int)∈ks g (h:Int))).map fun h:Nat=>(h:Int))=row
   have hrm:∀h:Nat,(h:Int)∈row↔h<m∧(x:Int)∈ks g (h:Int):=fun h=>by
    rw[←hrow,qt]
    constructor
    ·rintro⟨h',h1,h2⟩
     have:h'=h:=by omega
     subst this
     have:=List.mem_filter.1 h1
     exact⟨List.mem_range.1 this.1,tH this.2⟩
    ·rintro⟨h1,h2⟩
     exact⟨h,List.mem_filter.2 ⟨List.mem_range.2 h1,cE h2⟩,rfl⟩
   have hrn:row.Nodup:=by
    rw[←hrow]
    refine List.Pairwise.map _ (fun a b hab=>?_) (List.nodup_range.filter _)
    exact fun e=>hab (by omega)
   have hc1:∀h:Nat,(x:Int)∈ks g (h:Int)→1≤GS g out (h:Int):=fun h hm=>by
    rw[I9 hg hxo,aA hm];omega
   have hrr:∀z∈row,∃h:Nat,h<m∧z=(h:Int)∧1≤GS g out (h:Int)∧z∉q1:=fun z hz=>by
    obtain⟨h,h1,h2⟩:=List.mem_map.1 (hrow▸hz)
    subst h2
    have h3:=(hrm h).1 hz
    refine⟨h,h3.1,rfl,hc1 h h3.2,fun hm=>?_⟩
    have:=(hK.zero h h3.1).1 (j4 _ (p.mem_iff.1 (dj _ hm)))
    have:=hc1 h h3.2
    omega
   obtain⟨d',e',hL,hf⟩:=We hg (us g m m) row (fun h=>GS g out (h:Int)) q1 hrn hrr (fun h=>Wc hg _ _) (fun z hz=>hK.Cq z (j4 _ (p.mem_iff.1 (dj _ hz))))
    (row.length+1) 0 op q1 (by omega) (by omega) ⟨hK.len,fun h hh=>by rw[hK.num h hh];simp,hpn.2,fun z=>by simp⟩
   have hK':KI g m e' (out++[(x:Int)]) d':=by
    have hcnt:∀h:Nat,GS g out (h:Int)=GS g (out++[(x:Int)]) (h:Int)+if(x:Int)∈ks g (h:Int) then 1 else 0:=fun h=>I9 hg hxo
    have hmem:∀z,z∈e'↔z∈q1∨∃h:Nat,z=(h:Int)∧(h:Int)∈row∧GS g out (h:Int)=1:=fun z=>by
     have:=hL.mem z
     rw[List.take_length] at this
     exact this
    have hq1:∀z,z∈q1→z∈q∧z≠(x:Int):=fun z hz=>⟨p.mem_iff.1 (dj _ hz),fun e=>hpn.1 (e▸hz)⟩
    refine⟨hL.len,fun h hh=>?_,?_,fun z hz=>?_,fun h hh=>?_,fun i hi z hz=>?_⟩
    ·have:=hL.num h hh
     rw[List.take_length] at this
     rw[this]
     have h1:=hcnt h
     by_cases hxk:(x:Int)∈ks g (h:Int)
     ·rw[aA hxk] at h1
      rw[aA ((hrm h).2 ⟨hh,hxk⟩)]
      exact congrArg some (by omega)
     ·rw[aC hxk] at h1
      rw[aC (fun hm=>hxk ((hrm h).1 hm).2)]
      exact congrArg some (by omega)
    ·rw[j7]
     refine⟨hL.i7,?_,fun a ha b hb=>?_⟩
     ·rw[j7]
      refine⟨hon,by simp,fun a ha b hb=>?_⟩
      rw[mJ] at hb
      subst hb
      exact fun e=>hxo (e▸ha)
     ·rintro rfl
      rcases(hmem a).1 ha with h1|⟨h,h1,h2,h3⟩
      ·rcases List.mem_append.1 hb with h4|h4
       ·exact hdis _ (hq1 a h1).1 _ h4 rfl
       ·exact(hq1 a h1).2 (List.mem_singleton.1 h4)
      ·subst h1
       have h4:(h:Int)∈q++out:=by
        rcases List.mem_append.1 hb with h5|h5
        ·exact kK _ h5
        ·rw[List.mem_singleton.1 h5];exact j4 _ hxq
       have:=(hK.zero h ((hrm h).1 h2).1).1 h4
       omega
    ·rcases List.mem_append.1 hz with h1|h1
     ·rcases(hmem z).1 h1 with h2|⟨h,h2,h3,_⟩
      ·exact hK.Cq z (j4 _ (hq1 z h2).1)
      ·have:=((hrm h).1 h3).1;omega
     ·rcases List.mem_append.1 h1 with h2|h2
      ·exact hor z h2
      ·rw[mJ] at h2;omega
    ·have h1:=hcnt h
     have h2:=hK.zero h hh
     rw[jb,jb,mJ,hmem]
     constructor
     ·rintro((h3|⟨h',h3,h4,h5⟩)|h3|h3)
      ·have:=h2.1 (j4 _ (hq1 _ h3).1);omega
      ·have:h'=h:=by omega
       subst this
       rw[aA ((hrm _).1 h4).2] at h1;omega
      ·have:=h2.1 (kK _ h3);omega
      ·have:=h2.1 (j4 _ (h3▸hxq));omega
     ·intro h3
      by_cases hz0:GS g out (h:Int)=0
      ·rcases List.mem_append.1 (h2.2 hz0) with h4|h4
       ·rcases List.mem_cons.1 (p.mem_iff.2 h4) with h5|h5
        ·exact Or.inr (Or.inr h5)
        ·exact Or.inl (Or.inl h5)
       ·exact Or.inr (Or.inl h4)
      ·by_cases hxk:(x:Int)∈ks g (h:Int)
       ·rw[aA hxk] at h1
        exact Or.inl (Or.inr ⟨h,rfl,(hrm h).2 ⟨hh,hxk⟩,by omega⟩)
       ·rw[aC hxk] at h1;omega
    ·by_cases hio:i<out.length
     ·rw[List.getElem_append_left hio] at hz
      rw[C8 (by omega)]
      exact hK.pre i hio z hz
     ·have hi':i=out.length:=by rw[kG,kJ] at hi;omega
      subst hi'
      rw[List.getElem_append_right (dP _)] at hz
      simp only[Nat.sub_self,List.getElem_singleton] at hz
      rw[C8 (dP _),List.take_length]
      by_cases hzo:z∈out
      ·exact hzo
      ·have:z∈(ks g (x:Int)).filter fun w=>decide (w∉out):=List.mem_filter.2 ⟨hz,cE hzo⟩
       have h9:((ks g (x:Int)).filter fun w=>decide (w∉out))= []:=List.length_eq_zero_iff.1 hx0
       rw[h9] at this
       exact absurd this List.not_mem_nil
   obtain⟨out',hO,hr⟩:=ih e' (out++[(x:Int)]) d' (by rw[kG,kJ];omega) hK'
   refine⟨out',hO,fun y=>?_⟩
   rw[hstep]
   have hr:=hr y
   have hf:=hf y (out++[(x:Int)])
   unfold dS at hr
   have e1:f204 q=some (q.length:Int):=rfl
   have d1:decide ((0:Int)<(q.length:Int))=true:=cE (by have:=List.length_pos_iff.2 hq;omega)
   have e2:Yc y ((x:Int),y,0,y.gs 1,out,())=some (true,y,0,y.gs 1,out++[(x:Int)]):=aan y (x:Int) out (by omega)
   have d2:((x:Int)<((us g m m).length:Int))=True:=by rw[xQ];simp only[eq_iff_iff,iff_true];omega
   simp only[e1,aM,d1,cj,hpop,e2,Bool.not_true,eM,dB,aG,dE,d2,Wf hx,hrow,jF]
   have hf':da y.l (Yc y) (row.length+1) (y.l,us g m m,row,(row.length:Int),0,y,0,y.gs 1,op,out++[(x:Int)],q1)=some (.brk (y.l,us g m m,y,0,y.gs 1,d',out++[(x:Int)],e')):=hf
   rw[hf',aG]
   exact hr
theorem aaq{g:dN}{m:Nat}(hg:GG g m):∃out,KO g m out∧∀y:YC,gE y.l (Yc y) y.l g y 0 (y.gs 1) []=some (y,0,y.gs 1,out):=by
 have hB:=hB
 have hsm:=hg.small
 obtain⟨c',e',hL,h3⟩:=aao hg (us g m m) (m+1) 0 (List.replicate m (0:Int)) [] (by omega) (by omega) ⟨tG ..,fun h hh=>by omega,List.nodup_nil,fun x=>by simp⟩
 obtain⟨out,hO,h9⟩:=aap hg iB e' [] c' (sM (by grind)) ⟨hL.len,fun h hh=>by rw[hL.num h hh,I8],by rw[fL];exact hL.i7,fun x hx=>by
  rw[fL] at hx
  obtain⟨h,h1,h2,_⟩:=(hL.mem x).1 hx
  omega,fun h hh=>by
  rw[fL,hL.mem,I8]
  grind,fun i hi=>by grind⟩
 refine⟨out,hO,fun y=>?_⟩
 have h3:=h3 y []
 have h3':eB y.l (Yc y) (m+1) (y.l,g,us g m m,(m:Int),0,y,0,y.gs 1,[],List.replicate m (0:Int),[])=some (.brk (y.l,us g m m,y,0,y.gs 1,[],c',e')):=h3
 unfold gE
 rw[NI hg,aM,hg.many,dV m,aA (mL _),aA (by omega),jF]
 grind [aG]
theorem GV{g:dN}{m:Nat}(hg:GG g m):∃out,KO g m out∧jw g=some out:=by
 obtain⟨out,hO,h⟩:=aaq hg
 refine⟨out,hO,?_⟩
 unfold jw uW
 rw[qS (r:=.brk out)]
 ·rfl
 simp_all[gv]
abbrev NM:=ZO
def kk(M:NM)(h:Int):Ze:=(aX (aP (.int .i64) (.map (.int .i64) .bool) h M)).map (·.1)
theorem jW{k z:Int}{v:α}{es:List (Int×α)}:z∈(aZ (.int .i64) k v es).map (·.1)↔z=k∨z∈es.map (·.1):=by
 have h1:=di (kt:=.int .i64) rfl (k:=z) (es:=aZ (.int .i64) k v es)
 have h2:=di (kt:=.int .i64) rfl (k:=z) (es:=es)
 by_cases h:z=k
 ·subst h
  exact⟨fun _=>Or.inl rfl,fun _=>h1.1 (fP (kt:=.int .i64) rfl _ _ _)⟩
 ·rw[lH (kt:=.int .i64) rfl h] at h1
  grind
variable{M:NM}
theorem rS{L:Zu}:kk (aZ (.int .i64) h (some L) M) h=L.map (·.1):=by
 unfold kk
 rw[dw (kt:=.int .i64) (vt:=.map (.int .i64) .bool) rfl]
 rfl
theorem uj{z:Int}{L:Zc}(hz:z≠h):kk (aZ (.int .i64) h L M) z=kk M z:=by
 unfold kk
 rw[dG (kt:=.int .i64) (vt:=.map (.int .i64) .bool) rfl hz]
structure RG(m:Nat)(M:NM):Prop where
 i7:∀h,(kk M h).Nodup
 Cq:∀h x,x∈kk M h→0≤x∧x<(m:Int)
 Wg:(M.map (·.1)).Nodup
 SF:∀x∈M.map (·.1),0≤x∧x<(m:Int)
theorem uk(m x:Int)(M:NM):rL m x M=some (decide (0≤x∧x<m),M):=by
 unfold rL
 grind
theorem RG.put{m:Nat}(hM:RG m M){x:Int}(hh:h∈M.map (·.1))(hx:0≤x∧x<(m:Int)):
 RG m (aZ (.int .i64) h (some (aZ (.int .i64) x true (aX (aP (.int .i64) (.map (.int .i64) .bool) h M)))) M):=by
 refine⟨fun z=>?_,fun z y hy=>?_,cU (kt:=.int .i64) rfl hM.Wg,fun z hz=>?_⟩
 ·by_cases hz:z=h
  ·subst hz
   rw[rS]
   exact cU (kt:=.int .i64) rfl (hM.i7 z)
  ·rw[uj hz];exact hM.i7 z
 ·by_cases hz:z=h
  ·subst hz
   rw[rS,jW] at hy
   rcases hy with rfl|hy
   ·exact hx
   ·exact hM.Cq z y hy
  ·rw[uj hz] at hy;exact hM.Cq z y hy
 ·rw[jW] at hz
  rcases hz with rfl|hz
  ·exact hM.SF _ hh
  ·exact hM.SF z hz
theorem NJ{x z y:Int}:y∈kk (aZ (.int .i64) h (some (aZ (.int .i64) x true (aX (aP (.int .i64) (.map (.int .i64) .bool) h M)))) M) z↔(z=h∧y=x)∨y∈kk M z:=by
 by_cases hz:z=h
 ·subst hz
  rw[rS,jW]
  exact⟨fun hy=>hy.imp (fun e=>⟨rfl,e⟩) id,fun hy=>hy.imp (·.2) id⟩
 grind [uj]
abbrev NK:Int×dN:=((140:Int),((0:Int),((none:Option NM),())))
theorem Wh{m:Nat}(hsm:m≤1000000)(i:Zo)(j k:Int)(fr:Zy)(h:dt)(hfr:fr.length≤aH):∀(n c:Nat)(M:NM),fr.length -c<n→c≤fr.length→RG m M→h.2.1∈M.map (·.1)→(∀z(hz:z<fr.length),z<c→fr[z].2.2.1∈kk M h.2.1)→
 (∃M',lg n (i,j,k,fr,(fr.length:Int),(c:Int),(m:Int),h,M)=some (.brk (i,j,k,(m:Int),M'))∧RG m M'∧(∀z y,y∈kk M z→y∈kk M' z)∧∀f∈fr,f.2.2.1∈kk M' h.2.1)∨
  lg n (i,j,k,fr,(fr.length:Int),(c:Int),(m:Int),h,M)=some (.ret (.ret NK)):=by
 intro n
 have hB:=hB
 induction n with
 |zero=>grind
 |
  succ n ih=>
  intro c M hn hc hM hh hd
  unfold lg at ih ⊢
  rw[aN]
  generalize aL _ n=rec at ih ⊢
  dsimp only
  by_cases hcl:c<fr.length
  ·rw[cz (by omega),dV c,aA (show(c:Int)<(fr.length:Int) by omega),cK (t:=aQ) hcl,uk,aM]
   dsimp only
   by_cases hx:0≤fr[c].2.2.1∧fr[c].2.2.1<(m:Int)
   ·rw[aC (by simp[hx]),aA (di (kt:=.int .i64) rfl |>.2 hh),aA (iK (kt:=.int .i64) rfl _)]
    have hlen:(aX (aP (.int .i64) (.map (.int .i64) .bool) h.2.1 M)).length≤m:=by
     have:=gB m (kk M h.2.1) (hM.i7 _) (hM.Cq _)
     grind [kk]
    rw[aA (by omega),aY (by omega)]
    rcases ih (c+1) _ (by omega) (by omega) (hM.put hh hx) (by rw[jW];grind) (fun z hz hzc=>by
     rw[NJ]
     grind) with⟨M',e,h1,h2,h3⟩|e
    ·grind [NJ]
    grind
   ·rw[aA (by simp[hx])]
    exact Or.inr rfl
  ·rw[aC (by grind)]
   refine Or.inl ⟨M,rfl,hM,fun _ _ h=>h,fun f hf=>?_⟩
   obtain⟨z,hz,rfl⟩:=jn hf
   grind
theorem aar{m:Nat}(hsm:m≤1000000)(rs:Zo)(hrs:rs.length≤aH)(hfr:∀r∈rs,r.2.2.1.length≤aH):∀(n c:Nat)(M:NM),rs.length -c<n→c≤rs.length→RG m M→(∀z(hz:z<rs.length),z<c→∀f∈rs[z].2.2.1,f.2.2.1∈kk M rs[z].2.1)→
 (∃M',oH n (rs,(rs.length:Int),(c:Int),(m:Int),M)=some (.brk ((m:Int),M'))∧RG m M'∧∀r∈rs,∀f∈r.2.2.1,f.2.2.1∈kk M' r.2.1)∨
  oH n (rs,(rs.length:Int),(c:Int),(m:Int),M)=some (.ret NK):=by
 intro n
 have hB:=hB
 induction n with
 |zero=>grind
 |
  succ n ih=>
  intro c M hn hc hM hd
  unfold oH at ih ⊢
  rw[aN]
  generalize aL _ n=rec at ih ⊢
  dsimp only
  by_cases hcl:c<rs.length
  ·rw[cz (by omega),dV c,aA (show(c:Int)<(rs.length:Int) by omega),cK (t:=bG) hcl,uk,aM]
   dsimp only
   by_cases hx:0≤rs[c].2.1∧rs[c].2.1<(m:Int)
   ·rw[aC (by simp[hx])]
    have hput:∃M1,RG m M1∧rs[c].2.1∈M1.map (·.1)∧(∀z y,y∈kk M z→y∈kk M1 z)∧
     (if !(bT (.int .i64) rs[c].2.1 M) then(if bT (.int .i64) rs[c].2.1 M=false then(if bl (.int .i64) rs[c].2.1 rs[c].2.1=true then(if List.length M+1≤aH then(some (cL.brk (rs,(rs.length:Int),(c:Int),(m:Int),rs[c],aZ (.int .i64) rs[c].2.1 (some ([]:Zu)) (aZ (.int .i64) rs[c].2.1 (Ty.aD (.map (.int .i64) .bool)) M)))) else none) else none) else none) else(some (.brk (rs,(rs.length:Int),(c:Int),(m:Int),rs[c],M))):Option (cL (List dt×Int×Int×Int×dt×NM) (cL (List dt×Int×Int×Int×NM) (cL (Int×NM) (Int×dN)))))=some (.brk (rs,(rs.length:Int),(c:Int),(m:Int),rs[c],M1)):=by
     cases hm:bT (.int .i64) rs[c].2.1 M with
     |true=>exact⟨M,hM,di (kt:=.int .i64) rfl |>.1 hm,fun _ _ h=>h,by grind⟩
     |
      false=>
      have hno:rs[c].2.1∉M.map (·.1):=fun h=>by
       have:=di (kt:=.int .i64) rfl |>.2 h
       grind
      have hk0:kk M rs[c].2.1= []:=by
       unfold kk
       rw[A4 (kt:=.int .i64) hm]
       rfl
      have hlen:M.length≤m:=by
       have:=gB m (M.map (·.1)) hM.Wg hM.SF
       grind
      refine⟨_,⟨fun z=>?_,fun z y hy=>?_,cU (kt:=.int .i64) rfl (cU (kt:=.int .i64) rfl hM.Wg),fun z hz=>?_⟩,jW.2 (Or.inl rfl),fun z y hy=>?_,by rw[aA (by simp),aA rfl,aA (iK (kt:=.int .i64) rfl _),aA (by omega)]⟩
      ·by_cases hz:z=rs[c].2.1
       ·grind [rS]
       ·rw[uj hz,uj hz];exact hM.i7 z
      ·by_cases hz:z=rs[c].2.1
       ·subst hz;rw[rS] at hy;cases hy
       ·rw[uj hz,uj hz] at hy;exact hM.Cq z y hy
      ·rw[jW,jW] at hz
       rcases hz with rfl|rfl|hz
       ·exact hx
       ·exact hx
       ·exact hM.SF z hz
      grind [uj]
    obtain⟨M1,hM1,hh1,hk1,e1⟩:=hput
    rw[e1,aG]
    dsimp only
    rcases Wh hsm rs (rs.length:Int) (c:Int) rs[c].2.2.1 rs[c] (hfr _ (eT hcl)) (rs[c].2.2.1.length+1) 0 M1 (by omega) (by omega) hM1 hh1 (fun z hz h=>by omega) with⟨M',e,h1,h2,h3⟩|e
    ·have e':lg (Int.toNat (List.length rs[c].2.2.1:Int)+1) (rs,(rs.length:Int),(c:Int),rs[c].2.2.1,(List.length rs[c].2.2.1:Int),0,(m:Int),rs[c],M1)=some (.brk (rs,(rs.length:Int),(c:Int),(m:Int),M')):=e
     rw[e',aG]
     dsimp only
     rw[aY (by omega)]
     exact ih (c+1) M' (by omega) (by omega) h1 fun z hz hzc f hf=>by
      grind
    ·have e':lg (Int.toNat (List.length rs[c].2.2.1:Int)+1) (rs,(rs.length:Int),(c:Int),rs[c].2.2.1,(List.length rs[c].2.2.1:Int),0,(m:Int),rs[c],M1)=some (.ret (.ret NK)):=e
     rw[e',dp]
     grind
   ·rw[aA (by simp[hx])]
    exact Or.inr rfl
  ·rw[aC (by grind)]
   refine Or.inl ⟨M,rfl,hM,fun r hr=>?_⟩
   obtain⟨z,hz,rfl⟩:=jn hr
   grind
structure SB(s:cu):Prop where
 dq:s.2.2.1.length≤1000000
 rules:s.2.2.2.1.length≤aH
 aas:∀r∈s.2.2.2.1,r.2.2.1.length≤aH
theorem SG{s:cu}(hs:SB s):(∃g,f142 s=some ((0:Int),g)∧GG g s.2.2.1.length∧∀r∈s.2.2.2.1,∀f∈r.2.2.1,f.2.2.1∈ks g r.2.1)∨f142 s=some NK:=by
 have key:=aar hs.dq s.2.2.2.1 hs.rules hs.aas (s.2.2.2.1.length+1) 0 [] (by omega) (by omega) ⟨fun h=>List.nodup_nil,fun h x hx=>(by cases hx),List.nodup_nil,fun x hx=>(by cases hx)⟩ (fun z hz h=>by omega)
 unfold f142
 rcases key with⟨M',e,h1,h2⟩|e
 ·have e':oH (Int.toNat (s.2.2.2.1.length:Int)+1) (s.2.2.2.1,(s.2.2.2.1.length:Int),0,(s.2.2.1.length:Int),([]:NM))=some (.brk ((s.2.2.1.length:Int),M')):=e
  rw[e',aG]
  exact Or.inl ⟨_,rfl,⟨rfl,hs.dq,fun h=>h1.i7 h,fun h x hx=>h1.Cq h x hx⟩,h2⟩
 ·have e':oH (Int.toNat (s.2.2.2.1.length:Int)+1) (s.2.2.2.1,(s.2.2.2.1.length:Int),0,(s.2.2.1.length:Int),([]:NM))=some (.ret NK):=e
  rw[e',dp]
  grind
structure xR(s:cu)(l:Ze):Prop where
 i7:l.Nodup
 all:∀x,x∈l↔0≤x∧x<(s.2.2.1.length:Int)
 pre:∀r∈s.2.2.2.1,∀f∈r.2.2.1,l.idxOf f.2.2.1<l.idxOf r.2.1
theorem KO.all{g:dN}{m:Nat}(h:KO g m out)(hl:m≤out.length)(x:Int):x∈out↔0≤x∧x<(m:Int):=by
 refine⟨h.Cq x,fun hx=>?_⟩
 by_cases hm:x∈out
 ·exact hm
 ·have:=gB m (x::out) (List.nodup_cons.2 ⟨hm,h.i7⟩) fun y hy=>by
   rcases List.mem_cons.1 hy with rfl|hy
   ·exact hx
   ·exact h.Cq y hy
  grind
theorem Eo{s:cu}(hs:SB s):∃l ok e,f104 s=some (l,ok,e)∧(e=0→ok=true→(∀r∈s.2.2.2.1,0≤r.2.1∧r.2.1<(s.2.2.1.length:Int))→xR s l):=by
 unfold f104
 rcases SG hs with⟨g,e,hg,hn⟩|e
 ·rw[e,aM]
  dsimp only
  rw[aC (by decide)]
  obtain⟨out,hO,ho⟩:=GV hg
  have ho:=(zW g).trans ho
  have e2:BF g=some g:=rfl
  rw[e2,aM,ho,aM,hg.many]
  by_cases hl:out.length<s.2.2.1.length
  ·simp_all
  ·rw[aC (by grind)]
   refine⟨_,_,_,rfl,fun _ _ hr=>⟨hO.i7,hO.all (by omega),fun r hrm f hf=>?_⟩⟩
   have hin:r.2.1∈out:=(hO.all (by omega) _).2 (hr r hrm)
   have hi:=List.idxOf_lt_length_of_mem hin
   have h1:=hO.pre _ hi f.2.2.1 (by grind)
   obtain⟨j,hj,e3⟩:=jn h1
   rw[kI] at hj
   rw[List.getElem_take] at e3
   rw[←e3,hO.i7.idxOf_getElem]
   omega
 simp_all
theorem kr{A R:Type}{x:Option A}{f:A→Option R}(hx:∃a,x=some a)(hf:∀a,∃r,f a=some r):∃r,Option.bind x f=some r:=by
 obtain⟨a,rfl⟩:=hx
 exact hf a
theorem xS(x y:ZM)(hl:x.length≤aH):∃r,f145 x y=some r:=Pw .str (fun a b=>decide (a=b)) x y fun _=>hl
theorem J8(l:ZM)(hl:l.length≤aH):∃r,f263 l=some r:=by
 have hB:=hB
 have key:∀(n a:Nat)(d:List (Zi×Bool)),l.length -a<n→a≤l.length→d.length≤a→∃r,aI (U:=Unit) (Bv n (l,(l.length:Int),(a:Int),d)) (fun _=>some true)=some r:=by
  intro n
  induction n with
  |zero=>grind
  |
   succ n ih=>
   intro a d hn ha hd
   unfold Bv at ih ⊢
   rw[aN]
   generalize aL _ n=rec at ih ⊢
   dsimp only
   by_cases h:a<l.length
   ·rw[cz (by omega),dV a,aA (show(a:Int)<(l.length:Int) by omega)]
    split
    ·trivial
    ·rw[aA (by omega),aY (by omega)]
     exact ih (a+1) _ (by omega) (by omega) (dh (dy (kt:=.str)) (by omega))
   ·rw[aC (by grind)]
    trivial
 exact key _ 0 [] (by omega) (by omega) (by simp)
theorem J9(l:Ze)(hl:l.length≤aH):∃r,f188 l=some r∧(r=true→l.Nodup):=by
 have hB:=hB
 have key:∀(n a:Nat)(d:Zu),l.length -a<n→a≤l.length→d.length≤a→(∀x∈l.take a,aP (.int .i64) .bool x d=true)→(l.take a).Nodup→∃r,aI (U:=Unit) (By n (l,(l.length:Int),(a:Int),d)) (fun _=>some true)=some r∧(r=true→l.Nodup):=by
  intro n
  induction n with
  |zero=>grind
  |
   succ n ih=>
   intro a d hn ha hd h1 h2
   unfold By at ih ⊢
   rw[aN]
   generalize aL _ n=rec at ih ⊢
   dsimp only
   by_cases h:a<l.length
   ·rw[cz (by omega),dV a,aA (show(a:Int)<(l.length:Int) by omega),cK (t:=.int .i64) h]
    by_cases hs:aP (.int .i64) .bool l[a] d=true
    ·rw[aA hs];exact⟨false,rfl,fun h=>(by cases h)⟩
    ·rw[aC hs,aA (by omega),aY (by omega)]
     have ht:l.take (a+1)=l.take a++[l[a]]:=(List.take_append_getElem h).symm
     refine ih (a+1) _ (by omega) (by omega) (dh (dy (kt:=.int .i64)) (by omega)) (fun x hx=>?_) ?_
     ·rw[ht,jb,mJ] at hx
      by_cases e:x=l[a]
      ·rw[e];exact dw (kt:=.int .i64) (vt:=.bool) rfl _ _ _
      ·rw[dG (kt:=.int .i64) (vt:=.bool) rfl e];grind
     grind
   ·rw[aC (by grind)]
    have e:a=l.length:=by omega
    subst e
    rw[List.take_length] at h2
    exact⟨true,rfl,fun _=>h2⟩
 exact key _ 0 [] (by omega) (by omega) (by simp) (fun x hx=>(by cases hx)) List.nodup_nil
abbrev dT(t:dH):ZM:=t.2.2.2.2.2.1
theorem Ad(t:dH)(n:Int):∃r,f259 t n=some r:=by
 unfold f259
 refine kr ?_ fun v=>⟨v,rfl⟩
 repeat' (first|exact⟨_,rfl⟩|split)
theorem Ka(t:dH)(n:Int):∃r,f260 t n=some r:=by
 unfold f260
 refine kr ?_ fun v=>⟨v,rfl⟩
 repeat' (first|exact⟨_,rfl⟩|split)
theorem Kb(t:dH)(n:Int):∃r,f261 t n=some r:=by
 unfold f261
 refine kr ?_ fun v=>⟨v,rfl⟩
 repeat' (first|exact⟨_,rfl⟩|split)
theorem Kc(t:dH)(n:Int)(h:(dT t).length≤aH):∃r,f262 t n=some r:=by
 unfold f262
 obtain⟨q,hq⟩:=J8 _ h
 grind
theorem qd(c:dz)(t:dH)(h:(dT t).length≤aH):∃r,f168 c t=some r:=by
 unfold f168
 by_cases h1:t.1<1
 ·rw[cz h1];exact⟨_,rfl⟩
 ·by_cases h2:(4:Int)<t.1
  ·rw[aC (by grind),cE h2];exact⟨_,rfl⟩
  ·rw[aC (by grind),du h2,aM,aC (by decide),aG]
   dsimp only
   rw[aA (by omega),aA (by omega),aC (by omega)]
   by_cases e1:t.1=1
   ·rw[aA e1];exact kr (Ad _ _) fun v=>⟨v,rfl⟩
   ·rw[aC e1]
    by_cases e2:t.1=2
    ·rw[aA e2];exact kr (Ka _ _) fun v=>⟨v,rfl⟩
    ·rw[aC e2]
     by_cases e3:t.1=3
     ·rw[aA e3];exact kr (Kb _ _) fun v=>⟨v,rfl⟩
     ·rw[aC e3,aA (by omega)];exact kr (Kc _ _ h) fun v=>⟨v,rfl⟩
theorem qe(c:dz)(u:gU):∃r,f132 c u=some r:=by
 unfold f132
 refine kr ?_ fun v=>⟨v,rfl⟩
 by_cases h1:0≤u.2.2.2.1
 ·by_cases h2:u.2.2.2.1<(c.1.2.1.length:Int)
  ·rw[aA h1,aA h2]
   repeat' (first|exact⟨_,rfl⟩|split)
  ·rw[aC (show¬decide (u.2.2.2.1<(c.1.2.1.length:Int))=true by grind)]
   simp_all
 ·rw[aC (show¬decide ((0:Int)≤u.2.2.2.1)=true by grind)]
  simp_all
def cC(s:cu)(a:Int):ZH:=(nth bF s.2.2.1 a).2.2.2.2.1
structure Tw(s:cu)(a b:Int):Prop where
 a0:0≤a
 a1:a<(s.2.2.1.length:Int)
 b0:0≤b
 b1:b<((cC s a).length:Int)
theorem lk(c:dz)(a b:Int):(Tw c.1 a b∧f167 c a b=some (true,(nth bP (cC c.1 a) b).2.1))∨(¬Tw c.1 a b∧∃t,f167 c a b=some (false,t)):=by
 unfold f167
 by_cases h1:a<0
 ·rw[cz h1]
  exact Or.inr ⟨fun h=>by have:=h.a0;omega,_,rfl⟩
 ·rw[aC (by grind)]
  by_cases h2:(c.1.2.2.1.length:Int)≤a
  ·rw[cz h2]
   exact Or.inr ⟨fun h=>by have:=h.a1;omega,_,rfl⟩
  ·rw[aC (by grind)]
   by_cases h3:b<0
   ·rw[cz h3]
    exact Or.inr ⟨fun h=>by have:=h.b0;omega,_,rfl⟩
   ·rw[aC (by grind),aA (show 0≤a by omega),aA (show a<(c.1.2.2.1.length:Int) by omega)]
    by_cases h4:((cC c.1 a).length:Int)≤b
    ·have d4:decide (((cC c.1 a).length:Int)≤b)=true:=cE h4
     unfold cC at d4
     rw[d4,aM,aA rfl]
     exact Or.inr ⟨fun h=>by have:=h.b1;omega,_,rfl⟩
    ·have d4:decide (((cC c.1 a).length:Int)≤b)=false:=du h4
     have h5:b<((cC c.1 a).length:Int):=by omega
     have h6:=h5
     unfold cC at d4 h6
     rw[d4,aM,aC (by decide),aG]
     dsimp only
     rw[aA (show 0≤a by omega),aA (show a<(c.1.2.2.1.length:Int) by omega),aA (show 0≤b by omega),aA h6]
     exact Or.inl ⟨⟨by omega,by omega,by omega,h5⟩,rfl⟩
structure Tx(c:fJ)(t:gU)(n:Int):Prop where
 v0:0≤t.2.2.1
 v1:t.2.2.1<n
 f:Tw c.1.1 (nth aQ c.2.1.2.2.1 t.2.2.1).2.2.1 t.2.2.2.1
theorem nL(c:fJ)(t:gU){n:Int}(hn:n≤(c.2.1.2.2.1.length:Int)):
 (Tx c t n∧f244 c t n=some (true,(nth bP (cC c.1.1 (nth aQ c.2.1.2.2.1 t.2.2.1).2.2.1) t.2.2.2.1).2.1))∨(¬Tx c t n∧∃y,f244 c t n=some (false,y)):=by
 unfold f244
 by_cases h1:t.2.2.1<0
 ·rw[cz h1]
  exact Or.inr ⟨fun h=>by have:=h.v0;omega,_,rfl⟩
 ·rw[aC (by grind)]
  by_cases h2:n≤t.2.2.1
  ·rw[cE h2,aM,aA rfl]
   exact Or.inr ⟨fun h=>by have:=h.v1;omega,_,rfl⟩
  ·rw[du h2,aM,aC (by decide),aG]
   dsimp only
   rw[aA (show 0≤t.2.2.1 by omega),aA (show t.2.2.1<(c.2.1.2.2.1.length:Int) by omega)]
   rcases lk c.1 (nth aQ c.2.1.2.2.1 t.2.2.1).2.2.1 t.2.2.2.1 with⟨hi,e⟩|⟨hi,y,e⟩
   ·rw[e]
    exact Or.inl ⟨⟨by omega,by omega,hi⟩,rfl⟩
   ·rw[e]
    exact Or.inr ⟨fun h=>hi h.f,y,rfl⟩
theorem GW{t:dH}{n:Int}(h:f259 t n=some true):-1≤t.2.2.2.2.1∧t.2.2.2.2.1<n:=by
 unfold f259 at h
 grind
theorem um{c:dz}{t:dH}(h:f168 c t=some true)(h1:t.1=1):-1≤t.2.2.2.2.1∧t.2.2.2.2.1<(c.1.2.1.length:Int):=by
 unfold f168 at h
 rw[aC (show¬decide (t.1<(1:Int))=true by grind),h1,aM,aC (by decide),aG] at h
 dsimp only at h
 rw[h1,aA (by decide),aA (by decide),aC (by decide),aA rfl] at h
 obtain⟨q,hq⟩:=Ad t (c.1.2.1.length:Int)
 rw[hq] at h
 cases h
 exact GW hq
def Kd(c:fJ)(t:gU):dH:=(nth bP (cC c.1.1 (nth aQ c.2.1.2.2.1 t.2.2.1).2.2.1) t.2.2.2.1).2.1
structure FO(c:fJ)(j:Nat):Prop where
 s0:0≤(nth aQ c.2.1.2.2.1 (j:Int)).2.2.1
 s1:(nth aQ c.2.1.2.2.1 (j:Int)).2.2.1<(c.1.1.2.2.1.length:Int)
 of:(nth aQ c.2.1.2.2.1 (j:Int)).2.2.2.1.2.2.1= -1∨Tx c (nth aQ c.2.1.2.2.1 (j:Int)).2.2.2.1 (j:Int)
 pk:(nth aQ c.2.1.2.2.1 (j:Int)).2.2.2.1.2.2.1= -1∨(Kd c (nth aQ c.2.1.2.2.1 (j:Int)).2.2.2.1).1=3
theorem Wi(
 c:fJ) (hl:c.2.1.2.2.1.length≤aH):∀(n i:Nat),c.2.1.2.2.1.length -i<n→i≤c.2.1.2.2.1.length→(∀j<i,FO c j)→
 (aI (U:=Unit) (vz n (c.2.1.2.2.1,(c.2.1.2.2.1.length:Int),(i:Int),c)) (fun _=>some true)=some true∧∀j<c.2.1.2.2.1.length,FO c j)∨aI (U:=Unit) (vz n (c.2.1.2.2.1,(c.2.1.2.2.1.length:Int),(i:Int),c)) (fun _=>some true)=some false:=by
 intro n
 have hB:=hB
 induction n with
 |zero=>grind
 |
  succ n ih=>
  intro i hn hi hd
  unfold vz at ih ⊢
  rw[aN]
  generalize aL _ n=rec at ih ⊢
  dsimp only
  by_cases h:i<c.2.1.2.2.1.length
  ·rw[cz (by
    omega),dV i,aA (show(i:Int)<(c.2.1.2.2.1.length:Int) by omega)]
   by_cases h1:(nth aQ c.2.1.2.2.1 (i:Int)).2.2.1<0
   ·rw[cz h1];exact Or.inr rfl
   ·rw[aC (show¬decide ((nth aQ c.2.1.2.2.1 (i:Int)).2.2.1<(0:Int))=true by grind)]
    by_cases h2:(c.1.1.2.2.1.length:Int)≤(nth aQ c.2.1.2.2.1 (i:Int)).2.2.1
    ·rw[cE h2,aM,aA rfl];exact Or.inr rfl
    ·rw[du h2,aM,aC (by decide),aG]
     dsimp only
     rw[aY (by omega)]
     by_cases h3:(nth aQ c.2.1.2.2.1 (i:Int)).2.2.2.1.2.2.1= -1
     ·rw[cz h3]
      exact ih (i+1) (by omega) (by omega) fun j hj=>by
       by_cases e:j=i
       ·subst e;exact⟨Int.not_lt.1 h1,Int.not_le.1 h2,Or.inl h3,Or.inl h3⟩
       grind
     ·rw[aC (show¬decide ((nth aQ c.2.1.2.2.1 (i:Int)).2.2.2.1.2.2.1=(-1:Int))=true by grind)]
      rcases nL c (nth aQ c.2.1.2.2.1 (i:Int)).2.2.2.1 (n:=(i:Int)) (by omega) with⟨hit,e⟩|⟨_,y,e⟩
      ·rw[e,aM]
       dsimp only
       rw[aC (by decide),aM]
       by_cases h4:(Kd c (nth aQ c.2.1.2.2.1 (i:Int)).2.2.2.1).1=3
       ·have h5:=h4
        unfold Kd at h5
        rw[aC (by simp[h5])]
        exact ih (i+1) (by omega) (by omega) fun j hj=>by
         by_cases e:j=i
         ·subst e;exact⟨Int.not_lt.1 h1,Int.not_le.1 h2,Or.inr hit,Or.inr h4⟩
         grind
       ·unfold Kd at h4
        rw[aA (by grind)]
        exact Or.inr rfl
      ·rw[e,aM]
       dsimp only
       rw[aA (by decide),aM,aA rfl]
       exact Or.inr rfl
  ·rw[aC (by grind)]
   exact Or.inl ⟨rfl,fun j hj=>hd j (by omega)⟩
theorem GX(c:fJ)(hl:c.2.1.2.2.1.length≤aH):(f185 c=some true∧1≤c.2.1.2.2.1.length∧c.2.1.2.2.1.length≤3∧∀j<c.2.1.2.2.1.length,FO c j)∨f185 c=some false:=by
 unfold f185
 by_cases h1:(c.2.1.2.2.1.length:Int)<1
 ·rw[cz h1];exact Or.inr rfl
 ·rw[aC (show¬decide ((c.2.1.2.2.1.length:Int)<(1:Int))=true by grind)]
  by_cases h2:(3:Int)<(c.2.1.2.2.1.length:Int)
  ·rw[cE h2,aM,aA rfl];exact Or.inr rfl
  ·rw[du h2,aM,aC (by decide),aG]
   rcases Wi c hl (c.2.1.2.2.1.length+1) 0 (by omega) (by omega) (fun j hj=>by omega) with⟨e,h⟩|e<;>grind
def UO(s:cu):Prop:=∀x∈s.2.2.1,∀f∈x.2.2.2.2.1,f.2.1.1=1→-1≤f.2.1.2.2.2.2.1∧f.2.1.2.2.2.2.1<(s.2.1.length:Int)
def NB(s:cu):Prop:=∀x∈s.2.2.1,x.2.2.2.2.1.length≤aH∧∀f∈x.2.2.2.2.1,(dT f.2.1).length≤aH
theorem Tw.mem{s:cu}{a b:Int}(h:Tw s a b):nth bF s.2.2.1 a∈s.2.2.1∧nth bP (cC s a) b∈(nth bF s.2.2.1 a).2.2.2.2.1:=
 ⟨dc h.a0 h.a1,dc (t:=bP) (l:=cC s a) h.b0 h.b1⟩
theorem xT(c:dz)(a b:dH)(hn:(dT a).length≤aH)(ha:a.1=1→-1≤a.2.2.2.2.1∧a.2.2.2.2.1<(c.1.2.1.length:Int))(hb:b.1=1→-1≤b.2.2.2.2.1∧b.2.2.2.2.1<(c.1.2.1.length:Int)):∃r,f246 c a b=some r:=by
 unfold f246
 by_cases h1:a.1=b.1
 ·rw[aC (by simp[h1])]
  by_cases h4:a.1=4
  ·rw[cz h4]
   obtain⟨q,hq⟩:=xS (dT a) (dT b) hn
   unfold dT at hq
   rw[hq];exact⟨_,rfl⟩
  ·rw[aC (show¬decide (a.1=(4:Int))=true by grind)]
   by_cases e1:a.1=1
   ·obtain⟨ha1,ha2⟩:=ha e1
    obtain⟨hb1,hb2⟩:=hb (by omega)
    rw[aC (by simp[e1])]
    by_cases u1:a.2.2.2.2.1= -1
    ·rw[cz u1];exact⟨_,rfl⟩
    ·rw[aC (show¬decide (a.2.2.2.2.1=(-1:Int))=true by grind)]
     by_cases u2:b.2.2.2.2.1= -1
     ·rw[cE u2];exact⟨_,rfl⟩
     ·rw[du u2,aM,aC (by decide),aG]
      dsimp only
      rw[aA (by omega),aA ha2,aA (by omega),aA hb2]
      grind
   ·rw[aA (by simp[e1])];exact⟨_,rfl⟩
 ·rw[aA (by simp[h1])];trivial
def yv(c:fJ)(t:gU):Prop:=Tx c t (c.2.1.2.2.1.length:Int)∨t.2.2.1= -1
def SV(c:fJ)(y:dH)(t:gU):Prop:=(t.2.2.1= -1∧y.2.1≤t.2.2.2.2.1∧t.2.2.2.2.1≤y.2.2.1)∨(Tx c t (c.2.1.2.2.1.length:Int)∧y.2.1≤(Kd c t).2.1∧(Kd c t).2.2.1≤y.2.2.1)
theorem Tz{P:Prop}{x:Zm}(h:∃z,x=some z∧(z=true→P)):∃r,(Option.bind x fun v=>some v)=some r∧(r=true→P):=by
 grind
def GT(s:cu)(y:dH):Prop:=(dT y).length≤aH∧(y.1=1→-1≤y.2.2.2.2.1∧y.2.2.2.2.1<(s.2.1.length:Int))
theorem Tx.gt{c:fJ}{t:gU}{n:Int}(h:Tx c t n)(hN:NB c.1.1)(hU:UO c.1.1):GT c.1.1 (Kd c t):=by
 obtain⟨h1,h2⟩:=h.f.mem
 exact⟨(hN _ h1).2 _ h2,hU _ h1 _ h2⟩
theorem uq(t:gU):∃r,f245 t=some r∧(r=true→t.2.2.1= -1):=by
 unfold f245
 by_cases h:t.2.2.1= -1
 ·obtain⟨r,hr⟩:∃r,(Option.bind (α:=Bool) (if decide (t.2.2.1=(-1:Int)) then(if decide ((0:Int)≤t.2.2.2.2.1) then(some (decide (t.2.2.2.2.1≤(1048576:Int)))) else(some false)) else(some false)) fun v1=>some v1)=some r:=by
   refine kr ?_ fun v=>⟨v,rfl⟩
   repeat' (first|exact⟨_,rfl⟩|split)
  grind
 simp_all
theorem NL(c:fJ)(y:dH)(t:gU)(hN:NB c.1.1):∃r,f187 c y t=some r∧(r=true→yv c t∧SV c y t):=by
 unfold f187
 obtain⟨b,hb,hbm⟩:=uq t
 rw[hb,aM]
 cases b with
 |
  true=>
  rw[aA rfl]
  refine Tz ?_
  by_cases h1:y.2.1≤t.2.2.2.2.1
  ·rw[cz h1]
   exact⟨_,rfl,fun h=>⟨Or.inr (hbm rfl),Or.inl ⟨hbm rfl,h1,tH h⟩⟩⟩
  grind
 |
  false=>
  rw[aC (by decide)]
  rcases nL c t (n:=(c.2.1.2.2.1.length:Int)) (mL _) with⟨hi,e⟩|⟨_,z,e⟩
  ·rw[e,aM]
   dsimp only
   have h1:=hi.f.mem
   obtain⟨q,hq⟩:=xS (dT (Kd c t)) (dT y) ((hN _ h1.1).2 _ h1.2)
   unfold dT Kd at hq
   refine Tz ?_
   rw[aA rfl]
   simp only[hq,aM]
   by_cases g1:y.2.1≤(Kd c t).2.1
   ·by_cases g2:(Kd c t).2.2.1≤y.2.2.1
    ·have key:∀x:Zm,(∃r,x=some r)→∃r,x=some r∧(r=true→yv c t∧SV c y t):=fun x ⟨r,hr⟩=>⟨r,hr,fun _=>⟨Or.inl hi,Or.inr ⟨hi,g1,g2⟩⟩⟩
     apply key
     grind
    simp_all[Kd,du]
   simp_all[Kd,du]
  grind
theorem Wj(c:fJ)(a:rP)(hN:NB c.1.1)(hU:UO c.1.1)(e:Zw)(he:e.length≤1000):∀(n i:Nat)(g:List dH),e.length -i<n→i≤e.length→g.length≤i→(∀y∈g,GT c.1.1 y)→(∀j(hj:j<e.length),j<i→yv c e[j])→
 (∃g',oE n ((e.length:Int),(i:Int),c,a,e,g)=some (.brk (c,a,g'))∧g'.length≤e.length∧(∀y∈g',GT c.1.1 y)∧∀t∈e,yv c t)∨oE n ((e.length:Int),(i:Int),c,a,e,g)=some (.ret false):=by
 intro n
 have hB:=hB
 induction n with
 |zero=>grind
 |
  succ n ih=>
  intro i g hn hi hgl hg hd
  unfold oE at ih ⊢
  rw[aN]
  generalize aL _ n=rec at ih ⊢
  dsimp only
  by_cases h:i<e.length
  ·rw[cz (by omega),dV i,aA (show(i:Int)<(e.length:Int) by omega),cK (t:=aU) h,aY (by omega)]
   rcases nL c e[i] (n:=(c.2.1.2.2.1.length:Int)) (mL _) with⟨hit,e1⟩|⟨_,y,e1⟩
   ·rw[e1,aM]
    dsimp only
    rw[aC (by decide),aM,aC (by decide),aA rfl,aA (show(g.length+List.length [_])*72≤aH by grind)]
    exact ih (i+1) _ (by omega) (by omega) (by grind) (fun z hz=>by
     rcases List.mem_append.1 hz with hz|hz
     ·grind
     ·rw[mJ] at hz
      subst hz
      exact hit.gt hN hU) fun j hj hji=>by
     by_cases ej:j=i
     ·subst ej;exact Or.inl hit
     grind
   ·rw[e1,aM]
    dsimp only
    obtain⟨b,hb,hbm⟩:=uq e[i]
    rw[aA (by decide),hb,aM,aM]
    cases b with
    |false=>rw[aA (by decide)];exact Or.inr rfl
    |
     true=>
     rw[aC (by decide),aC (by decide)]
     exact ih (i+1) g (by omega) (by omega) (by omega) hg fun j hj hji=>by
      by_cases ej:j=i
      ·subst ej;exact Or.inr (hbm rfl)
      grind
  ·rw[aC (by grind)]
   refine Or.inl ⟨g,rfl,by omega,hg,fun t ht=>?_⟩
   obtain⟨j,hj,rfl⟩:=jn ht
   grind
theorem SH(a:rP)(g:List dH)(hg:g.length≤1000):∀(n i:Nat),g.length -i<n→i≤g.length→∃r,aI (U:=Unit) (nG n ((g.length:Int),(i:Int),a,g)) (fun _=>some true)=some r:=by
 intro n
 induction n with
 |zero=>grind
 |
  succ n ih=>
  intro i hn hi
  unfold nG at ih ⊢
  rw[aN]
  generalize aL _ n=rec at ih ⊢
  dsimp only
  by_cases h:i<g.length
  ·rw[cz (by omega),dV i,aA (show(i:Int)<(g.length:Int) by omega),aY (by omega)]
   have key:∀v:Bool,∃r,aI (U:=Unit) (Option.bind (α:=Bool) (if decide (a.1=(2:Int)) then(some (!v)) else(if decide (a.1=(3:Int)) then(some (!v)) else(some false))) fun v16=>if v16=true then(bU (some false)) else(rec ((g.length:Int),((i+1:Nat):Int),a,g))) (fun _=>some true)=some r:=by
    intro v
    have h2:∀w:Bool,∃r,aI (U:=Unit) (if w=true then(bU (some false)) else(rec ((g.length:Int),((i+1:Nat):Int),a,g))) (fun _=>some true)=some r:=fun w=>by
     cases w with
     |true=>exact⟨_,rfl⟩
     |false=>grind
    split
    ·exact h2 (!v)
    ·split
     ·exact h2 (!v)
     grind
   split
   ·grind
   ·exact key _
  ·rw[aC (by grind)]
   trivial
theorem Ke(c:fJ)(a:rP)(hN:NB c.1.1)(hU:UO c.1.1):∃r,f186 c a=some r∧(r=true→yv c a.2.1∧yv c a.2.2.1):=by
 have hB:=hB
 unfold f186
 by_cases h1:a.1<1
 ·rw[cz h1];exact⟨_,rfl,fun h=>(by cases h)⟩
 ·rw[aC (show¬decide (a.1<(1:Int))=true by grind)]
  by_cases h2:(4:Int)<a.1
  ·rw[cE h2];exact⟨_,rfl,fun h=>(by cases h)⟩
  ·rw[du h2,aM,aC (by decide),aG]
   dsimp only
   rcases Wj c a hN hU [a.2.1,a.2.2.1] (by simp) 3 0 [] (by simp) (by simp) (by simp) (fun y hy=>(by cases hy)) (fun j hj h=>by omega) with⟨g,e,hgl,hg,ht⟩|e
   ·have e':oE (Int.toNat (List.length [a.2.1,a.2.2.1]:Int)+1) ((List.length [a.2.1,a.2.2.1]:Int),0,c,a,[a.2.1,a.2.2.1],([]:List dH))=some (.brk (c,a,g)):=e
    rw[e',aG]
    dsimp only
    have hgl2:g.length≤2:=hgl
    have key:∀x:Zm,(∃r,x=some r)→∃r,x=some r∧(r=true→yv c a.2.1∧yv c a.2.2.1):=fun x ⟨r,hr⟩=>⟨r,hr,fun _=>⟨ht _ (by simp),ht _ (by simp)⟩⟩
    apply key
    have h16:∃r,aI (U:=Unit) (nG (Int.toNat (g.length:Int)+1) ((g.length:Int),0,a,g)) (fun _=>some true)=some r:=SH a g (by omega) _ 0 (by omega) (by omega)
    have h3:∀v:Bool,∃r,aI (U:=rP×List dH) (if v=true then(bU (some false)) else(some (.brk (a,g)))) (fun u=>match u with|⟨x,f⟩=>aI (U:=Unit) (nG (Int.toNat (f.length:Int)+1) ((f.length:Int),0,x,f)) fun _=>some true)=some r:=fun v=>by
     cases v with
     |true=>exact⟨_,rfl⟩
     |false=>exact h16
    by_cases g0:(g.length:Int)=0
    ·simp_all
    ·rw[aC (show¬decide ((g.length:Int)=(0:Int))=true by grind)]
     by_cases g2:(g.length:Int)=2
     ·rw[cz g2,aA (by omega),aA (by omega)]
      have m0:=hg _ (dc (t:=fH) (l:=g) (a:=0) (by omega) (by omega))
      have m1:=hg _ (dc (t:=fH) (l:=g) (a:=1) (by omega) (by omega))
      obtain⟨q,hq⟩:=xT c.1 (nth fH g (0:Int)) (nth fH g (1:Int)) m0.1 m0.2 m1.2
      rw[hq]
      exact h3 _
     simp_all
   ·have e':oE (Int.toNat (List.length [a.2.1,a.2.2.1]:Int)+1) ((List.length [a.2.1,a.2.2.1]:Int),0,c,a,[a.2.1,a.2.2.1],([]:List dH))=some (.ret false):=e
    simp_all[dp]
structure RK(c:fJ):Prop where
 n1:1≤c.2.1.2.2.1.length
 n3:c.2.1.2.2.1.length≤3
 fo:∀j<c.2.1.2.2.1.length,FO c j
 wh:∀a∈c.2.1.2.2.2.1,yv c a.2.1∧yv c a.2.2.1
 h0:0≤c.2.1.2.1
 h1:c.2.1.2.1<(c.1.1.2.2.1.length:Int)
 st:∀s∈c.2.1.2.2.2.2.1,Tw c.1.1 c.2.1.2.1 s.2.1∧yv c s.2.2.1
 sv:∀s∈c.2.1.2.2.2.2.1,s.2.1≠0∧SV c (nth bP (cC c.1.1 c.2.1.2.1) s.2.1).2.1 s.2.2.1
 sd:(c.2.1.2.2.2.2.1.map (·.2.1)).Nodup
 sn:(c.2.1.2.2.2.2.1.length:Int)=bq (((cC c.1.1 c.2.1.2.1).length:Int) -(1:Int))
theorem Wl(c:fJ)(hN:NB c.1.1)(hU:UO c.1.1)(l:ZB)(hl:l.length≤aH):∀(n i:Nat),l.length -i<n→i≤l.length→(∀j(hj:j<l.length),j<i→yv c l[j].2.1∧yv c l[j].2.2.1)→
 (rH n (l,(l.length:Int),(i:Int),c)=some (.brk c)∧∀a∈l,yv c a.2.1∧yv c a.2.2.1)∨rH n (l,(l.length:Int),(i:Int),c)=some (.ret false):=by
 intro n
 have hB:=hB
 induction n with
 |zero=>grind
 |
  succ n ih=>
  intro i hn hi hd
  unfold rH at ih ⊢
  rw[aN]
  generalize aL _ n=rec at ih ⊢
  dsimp only
  by_cases h:i<l.length
  ·obtain⟨r,hr,hm⟩:=Ke c l[i] hN hU
   rw[cz (by omega),dV i,aA (show(i:Int)<(l.length:Int) by omega),cK (t:=aV) h,aY (by omega),hr,aM]
   cases r with
   |false=>rw[aA (by decide)];exact Or.inr rfl
   |
    true=>
    rw[aC (by decide)]
    exact ih (i+1) (by omega) (by omega) fun j hj hji=>by
     by_cases ej:j=i
     ·grind
     ·exact hd j hj (by omega)
  ·rw[aC (by grind)]
   refine Or.inl ⟨rfl,fun t ht=>?_⟩
   obtain⟨j,hj,rfl⟩:=jn ht
   grind
theorem SI(c:fJ)(hN:NB c.1.1)(h0:Int)(l:ZC)(hl:l.length*80≤aH):∀(n i:Nat)(g:Ze),l.length -i<n→i≤l.length→g=(l.take i).map (·.2.1)→(∀j(hj:j<l.length),j<i→Tw c.1.1 h0 l[j].2.1∧yv c l[j].2.2.1∧l[j].2.1≠0∧SV c (nth bP (cC c.1.1 h0) l[j].2.1).2.1 l[j].2.2.1)→
 (∃g',lf n (h0,l,(l.length:Int),(i:Int),c,g)=some (.brk g')∧g'=l.map (·.2.1)∧∀s∈l,Tw c.1.1 h0 s.2.1∧yv c s.2.2.1∧s.2.1≠0∧SV c (nth bP (cC c.1.1 h0) s.2.1).2.1 s.2.2.1)∨lf n (h0,l,(l.length:Int),(i:Int),c,g)=some (.ret false):=by
 intro n
 have hB:=hB
 induction n with
 |zero=>grind
 |
  succ n ih=>
  intro i g hn hi hgl hd
  unfold lf at ih ⊢
  rw[aN]
  generalize aL _ n=rec at ih ⊢
  dsimp only
  by_cases h:i<l.length
  ·rw[cz (by omega),dV i,aA (show(i:Int)<(l.length:Int) by omega),cK (t:=bu) h,aY (by omega)]
   rcases lk c.1 h0 l[i].2.1 with⟨hit,e1⟩|⟨_,y,e1⟩
   ·rw[e1,aM]
    dsimp only
    rw[aC (by decide)]
    by_cases hz:l[i].2.1=0
    ·rw[cz hz,aM,aA rfl];exact Or.inr rfl
    ·obtain⟨r,hr,hm⟩:=NL c (nth bP (cC c.1.1 h0) l[i].2.1).2.1 l[i].2.2.1 hN
     rw[aC (show¬decide (l[i].2.1=(0:Int))=true by grind),hr,aM,aM]
     cases r with
     |false=>rw[aA (by decide)];exact Or.inr rfl
     |
      true=>
      rw[aC (by decide),aA (show(g.length+List.length [_])*8≤aH by rw[kJ,hgl,jo,kI];omega)]
      exact ih (i+1) _ (by omega) (by omega) (by rw[hgl,←List.take_append_getElem h,gi];rfl) fun j hj hji=>by
       by_cases ej:j=i
       ·grind
       ·exact hd j hj (by omega)
   ·rw[e1,aM]
    dsimp only
    rw[aA (by decide),aM,aA rfl];exact Or.inr rfl
  ·rw[aC (by grind)]
   refine Or.inl ⟨g,rfl,by simp_all[gm],fun t ht=>?_⟩
   obtain⟨j,hj,rfl⟩:=jn ht
   exact hd j hj (by omega)
theorem Kf(c:fJ)(hN:NB c.1.1)(hU:UO c.1.1)(hf:c.2.1.2.2.1.length≤aH)(hw:c.2.1.2.2.2.1.length≤aH)(hs:c.2.1.2.2.2.2.1.length*80≤aH):∃r,f130 c=some r∧(r=true→RK c):=by
 have hB:=hB
 have no:∀x:Zm,x=some false→∃r,x=some r∧(r=true→RK c):=fun x hx=>⟨false,hx,fun h=>(by cases h)⟩
 unfold f130
 rcases GX c hf with⟨e,h1,h3,hfo⟩|e
 ·rw[e,aM,aC (by decide)]
  by_cases h8:(8:Int)<(c.2.1.2.2.2.1.length:Int)
  ·rw[cE h8];exact no _ rfl
  ·rw[du h8,aM,aC (by decide),aG]
   rcases Wl c hN hU c.2.1.2.2.2.1 hw (c.2.1.2.2.2.1.length+1) 0 (by omega) (by omega) (fun j hj h=>by omega) with⟨e4,hwh⟩|e4
   ·have e4':rH (Int.toNat (c.2.1.2.2.2.1.length:Int)+1) (c.2.1.2.2.2.1,(c.2.1.2.2.2.1.length:Int),0,c)=some (.brk c):=e4
    rw[e4',aG]
    by_cases d1:c.2.1.2.1<0
    ·rw[cz d1];exact no _ rfl
    ·rw[aC (show¬decide (c.2.1.2.1<(0:Int))=true by grind)]
     by_cases d2:(c.1.1.2.2.1.length:Int)≤c.2.1.2.1
     ·rw[cz d2];exact no _ rfl
     ·rw[aC (show¬decide ((c.1.1.2.2.1.length:Int)≤c.2.1.2.1)=true by grind),aA (Int.not_lt.1 d1),aA (Int.not_le.1 d2),aM]
      by_cases hsn:(c.2.1.2.2.2.2.1.length:Int)=bq (((cC c.1.1 c.2.1.2.1).length:Int) -(1:Int))
      rotate_left
      ·unfold cC at hsn
       rw[aA (by grind)];exact no _ rfl
      ·have hsn':=hsn
       unfold cC at hsn'
       rw[aC (by grind),aG]
       dsimp only
       rcases SI c hN c.2.1.2.1 c.2.1.2.2.2.2.1 hs (c.2.1.2.2.2.2.1.length+1) 0 [] (by omega) (by omega) rfl (fun j hj h=>by omega) with⟨g,e14,hgl,hst⟩|e14
       ·have e14':lf (Int.toNat (c.2.1.2.2.2.2.1.length:Int)+1) (c.2.1.2.1,c.2.1.2.2.2.2.1,(c.2.1.2.2.2.2.1.length:Int),0,c,([]:Ze))=some (.brk g):=e14
        rw[e14',aG]
        obtain⟨q,hq,hqd⟩:=J9 g (by grind)
        rw[hq]
        exact⟨q,rfl,fun hq1=>⟨h1,h3,hfo,hwh,Int.not_lt.1 d1,Int.not_le.1 d2,fun s hs=>⟨(hst s hs).1,(hst s hs).2.1⟩,fun s hs=>(hst s hs).2.2,hgl▸hqd hq1,hsn⟩⟩
       ·have e14':lf (Int.toNat (c.2.1.2.2.2.2.1.length:Int)+1) (c.2.1.2.1,c.2.1.2.2.2.2.1,(c.2.1.2.2.2.2.1.length:Int),0,c,([]:Ze))=some (.ret false):=e14
        rw[e14',dp];grind
   simp_all[dp]
 ·rw[e,aM,aA (by decide)];exact no _ rfl
theorem NN(x:ZH)(a b:Int)(w:Vd)(c:dz):∀(n i:Nat),4 -i<n→i≤4→oD n (x,a,b,w,(i:Int),c)=some (.brk (x,a,b,c))∨oD n (x,a,b,w,(i:Int),c)=some (.ret (.ret false)):=by
 intro n
 induction n with
 |zero=>grind
 |
  succ n ih=>
  intro i hn hi
  unfold oD at ih ⊢
  rw[aN]
  generalize aL _ n=rec at ih ⊢
  dsimp only
  by_cases h:i<4
  ·rw[cz (by omega),dV i,aA (show(i:Int)<4 by omega),aY (by omega)]
   have h2:∀v:Bool,(if v=true then(bU (bU (some false))) else(rec (x,a,b,w,((i+1:Nat):Int),c)))=some (.brk (x,a,b,c))∨(if v=true then(bU (bU (some false))) else(rec (x,a,b,w,((i+1:Nat):Int),c)))=some (.ret (.ret false)):=fun v=>by
    cases v with
    |true=>exact Or.inr rfl
    |false=>exact ih (i+1) (by omega) (by omega)
   split
   ·simp_all
   ·exact h2 _
  grind
theorem NO(c:dz)(l:ZH)(hl:l.length≤aH)(hn:∀f∈l,(dT f.2.1).length≤aH):∀(n i:Nat),l.length -i<n→i≤l.length→(∀j(hj:j<l.length),j<i→f168 c l[j].2.1=some true)→
 (aI (U:=Unit) (vu n (l,(l.length:Int),(i:Int),c)) (fun _=>some true)=some true∧∀f∈l,f168 c f.2.1=some true)∨aI (U:=Unit) (vu n (l,(l.length:Int),(i:Int),c)) (fun _=>some true)=some false:=by
 intro n
 have hB:=hB
 induction n with
 |zero=>grind
 |
  succ n ih=>
  intro i hn' hi hd
  unfold vu at ih ⊢
  rw[aN]
  generalize aL _ n=rec at ih ⊢
  dsimp only
  by_cases h:i<l.length
  ·obtain⟨r,hr⟩:=qd c l[i].2.1 (hn _ (eT h))
   rw[cz (by omega),dV i,aA (show(i:Int)<(l.length:Int) by omega),cK (t:=bP) h,hr,aM]
   cases r with
   |false=>rw[aA (by decide)];exact Or.inr rfl
   |
    true=>
    rw[aC (by decide)]
    have e9:=NN l (l.length:Int) (i:Int) l[i].2.2.1 c (Int.toNat (4:Int)+1) 0 (by decide) (by decide)
    rcases e9 with e9|e9
    ·have e9':oD (Int.toNat (4:Int)+1) (l,(l.length:Int),(i:Int),l[i].2.2.1,0,c)=some (.brk (l,(l.length:Int),(i:Int),c)):=e9
     rw[e9',aG]
     dsimp only
     rw[aY (by omega)]
     exact ih (i+1) (by omega) (by omega) fun j hj hji=>by
      grind
    ·have e9':oD (Int.toNat (4:Int)+1) (l,(l.length:Int),(i:Int),l[i].2.2.1,0,c)=some (.ret (.ret false)):=e9
     simp_all[dp]
  ·rw[aC (by grind)]
   refine Or.inl ⟨rfl,fun t ht=>?_⟩
   obtain⟨j,hj,rfl⟩:=jn ht
   grind
theorem ur(c:dz)(x:l6)(hl:x.2.2.2.2.1.length≤aH)(hn:∀f∈x.2.2.2.2.1,(dT f.2.1).length≤aH):∃r,f134 c x=some r∧(r=true→(1≤x.2.2.2.2.1.length∧(nth bP x.2.2.2.2.1 (0:Int)).2.1.1=3)∧∀f∈x.2.2.2.2.1,f168 c f.2.1=some true):=by
 have no:∀y:Zm,y=some false→∃r,y=some r∧(r=true→(1≤x.2.2.2.2.1.length∧(nth bP x.2.2.2.2.1 (0:Int)).2.1.1=3)∧∀f∈x.2.2.2.2.1,f168 c f.2.1=some true):=fun y hy=>⟨false,hy,fun h=>(by cases h)⟩
 unfold f134
 by_cases h1:x.2.2.1<0
 ·rw[cz h1];exact no _ rfl
 ·rw[aC (show¬decide (x.2.2.1<(0:Int))=true by grind)]
  by_cases h2:(c.1.1.length:Int)≤x.2.2.1
  ·rw[cz h2];exact no _ rfl
  ·rw[aC (show¬decide ((c.1.1.length:Int)≤x.2.2.1)=true by grind)]
   by_cases h3:x.2.2.2.1<1
   ·rw[cz h3];exact no _ rfl
   ·rw[aC (show¬decide (x.2.2.2.1<(1:Int))=true by grind)]
    by_cases h4:(255:Int)<x.2.2.2.1
    ·rw[cz h4];exact no _ rfl
    ·rw[aC (show¬decide ((255:Int)<x.2.2.2.1)=true by grind)]
     by_cases h5:(x.2.2.2.2.1.length:Int)<1
     ·rw[cz h5];exact no _ rfl
     ·rw[aC (show¬decide ((x.2.2.2.2.1.length:Int)<(1:Int))=true by grind)]
      by_cases h6:(12:Int)<(x.2.2.2.2.1.length:Int)
      ·rw[cz h6];exact no _ rfl
      ·rw[aC (show¬decide ((12:Int)<(x.2.2.2.2.1.length:Int))=true by grind),aA (show(0:Int)<(x.2.2.2.2.1.length:Int) by omega),aM]
       by_cases h7:(nth bP x.2.2.2.2.1 (0:Int)).2.1.1=3
       rotate_left
       ·rw[aA (by grind)];exact no _ rfl
       ·rw[aC (by simp[h7]),aG]
        dsimp only
        rcases NO c x.2.2.2.2.1 hl hn (x.2.2.2.2.1.length+1) 0 (by omega) (by omega) (fun j hj h=>by omega) with⟨e,h⟩|e<;>grind
theorem yw(c:dz)(p:oP)(hp:p.2.1.length≤aH):∃r,f137 c p=some r:=by
 have hB:=hB
 have key:∀(n i:Nat),p.2.1.length -i<n→i≤p.2.1.length→oF n (p.2.1,(p.2.1.length:Int),(i:Int),c,p)=some (.brk p)∨oF n (p.2.1,(p.2.1.length:Int),(i:Int),c,p)=some (.ret false):=by
  intro n
  induction n with
  |zero=>grind
  |
   succ n ih=>
   intro i hn hi
   unfold oF at ih ⊢
   rw[aN]
   generalize aL _ n=rec at ih ⊢
   dsimp only
   by_cases h:i<p.2.1.length
   ·rw[cz (by omega),dV i,aA (show(i:Int)<(p.2.1.length:Int) by omega),aY (by omega)]
    rcases lk c (nth fe p.2.1 (i:Int)).2.2.1 (nth fe p.2.1 (i:Int)).2.2.2.1 with⟨_,e1⟩|⟨_,y,e1⟩
    ·grind
    ·rw[e1,aM]
     exact Or.inr rfl
   grind
 unfold f137
 have e:=key (Int.toNat (p.2.1.length:Int)+1) 0 (by omega) (by omega)
 rcases e with e|e
 ·have e':oF (Int.toNat (p.2.1.length:Int)+1) (p.2.1,(p.2.1.length:Int),0,c,p)=some (.brk p):=e
  rw[e',aG]
  refine kr ?_ fun v=>⟨v,rfl⟩
  repeat' (first|exact⟨_,rfl⟩|split)
 ·have e':oF (Int.toNat (p.2.1.length:Int)+1) (p.2.1,(p.2.1.length:Int),0,c,p)=some (.ret false):=e
  simp_all[dp]
structure SW(s:cu):Prop where
 nM:s.2.1.length≤aH
 dq:s.2.2.1.length≤aH
 rules:s.2.2.2.1.length≤aH
 fp:s.2.2.2.2.2.1.length≤aH
 nb:NB s
 rl:∀r∈s.2.2.2.1,r.2.2.1.length≤aH∧r.2.2.2.1.length≤aH∧r.2.2.2.2.1.length*80≤aH
 may:∀p∈s.2.2.2.2.2.1,p.2.1.length≤aH
structure TG(s:cu):Prop where
 many:s.2.2.1.length≤16
 fields:∀x∈s.2.2.1,1≤x.2.2.2.2.1.length
 ok:∀x∈s.2.2.1,∀f∈x.2.2.2.2.1,f168 (s,()) f.2.1=some true
 nM:UO s
 rules:∀r∈s.2.2.2.1,RK ((s,()),(r,()))
 self:∀x∈s.2.2.1,(nth bP x.2.2.2.2.1 (0:Int)).2.1.1=3
 uok:∀u∈s.2.1,f132 (s,()) u=some true
theorem GY(s:cu)(h:s.2.2.2.2.2.1.length≤aH):∃r,f128 (s,())=some r∧(r=true→s.2.2.1.length≤16):=by
 have no:∀y:Zm,y=some false→∃r,y=some r∧(r=true→s.2.2.1.length≤16):=fun y hy=>⟨false,hy,fun h=>(by cases h)⟩
 unfold f128
 obtain⟨i,hi,_⟩:=adl dL f184 s.2.2.2.2.2.1 (fun p=>decide ((64:Int)<(p.2.1.length:Int))) (fun x _=>rfl) h
 have e1:vq s.2.2.2.2.2.1=some (decide ((0:Int)≤i)):=by
  unfold vq
  have:Bs s.2.2.2.2.2.1=some i:=hi
  grind
 grind
theorem Ep(s:cu)(h:s.2.1.length≤aH):∃r,vr s.2.1 (s,())=some r∧(r=true→∀u∈s.2.1,f132 (s,()) u=some true):=by
 have hp:∀x∈s.2.1,rF x (s,())=some (!((f132 (s,()) x).getD false),(s,())):=fun x _=>by
  obtain⟨r,hr⟩:=qe (s,()) x
  unfold rF
  grind
 obtain⟨i,hi,him⟩:=Pv aU rF s.2.1 (s,()) _ hp h
 have e:Bt s.2.1 (s,())=some (i,(s,())):=hi
 unfold vr Bu
 rw[e]
 refine⟨_,rfl,fun hr x hx=>?_⟩
 obtain⟨r,hr2⟩:=qe (s,()) x
 grind
theorem B9(s:cu)(hs:SW s):∃r,vw s.2.2.1 (s,())=some r∧(r=true→∀x∈s.2.2.1,(1≤x.2.2.2.2.1.length∧(nth bP x.2.2.2.2.1 (0:Int)).2.1.1=3)∧∀f∈x.2.2.2.2.1,f168 (s,()) f.2.1=some true):=by
 have hp:∀x∈s.2.2.1,rG x (s,())=some (!((f134 (s,()) x).getD false),(s,())):=fun x hx=>by
  obtain⟨r,hr,_⟩:=ur (s,()) x (hs.nb x hx).1 (hs.nb x hx).2
  unfold rG
  grind
 obtain⟨i,hi,him⟩:=Pv bF rG s.2.2.1 (s,()) _ hp hs.dq
 have e:Bw s.2.2.1 (s,())=some (i,(s,())):=hi
 unfold vw Bx
 rw[e]
 refine⟨_,rfl,fun hr x hx=>?_⟩
 obtain⟨r,hr2,hm⟩:=ur (s,()) x (hs.nb x hx).1 (hs.nb x hx).2
 grind
theorem GZ(s:cu)(hs:SW s)(hU:UO s):∃r,vA s.2.2.2.1 (s,())=some r∧(r=true→∀x∈s.2.2.2.1,RK ((s,()),(x,()))):=by
 have hk:=fun x(hx:x∈s.2.2.2.1)=>Kf ((s,()),(x,())) hs.nb hU (hs.rl x hx).1 (hs.rl x hx).2.1 (hs.rl x hx).2.2
 have hp:∀x∈s.2.2.2.1,rI x (s,())=some (!((f130 ((s,()),(x,()))).getD false),(s,())):=fun x hx=>by
  grind [rI,Bz]
 obtain⟨i,hi,him⟩:=Pv bG rI s.2.2.2.1 (s,()) _ hp hs.rules
 have e:BA s.2.2.2.1 (s,())=some (i,(s,())):=hi
 unfold vA BB
 rw[e]
 refine⟨_,rfl,fun hr x hx=>?_⟩<;>grind
theorem xU(s:cu)(hs:SW s):∃r,vC s.2.2.2.2.2.1 (s,())=some r:=by
 have hp:∀x∈s.2.2.2.2.2.1,rJ x (s,())=some (!((f137 (s,()) x).getD false),(s,())):=fun x hx=>by
  obtain⟨r,hr⟩:=yw (s,()) x (hs.may x hx)
  unfold rJ
  grind
 obtain⟨i,hi,_⟩:=Pv dL rJ s.2.2.2.2.2.1 (s,()) _ hp hs.fp
 have e:BC s.2.2.2.2.2.1 (s,())=some (i,(s,())):=hi
 unfold vC BD
 rw[e];exact⟨_,rfl⟩
theorem Ae(s:cu)(hs:SW s):∃r,f100 s=some r∧(r=0→TG s):=by
 have no:∀(y:ZV)(z:Int),z≠0→y=some z→∃r,y=some r∧(r=0→TG s):=fun y z hz hy=>⟨z,hy,fun h=>absurd h hz⟩
 unfold f100
 obtain⟨b,hb,hbm⟩:=GY s hs.fp
 rw[hb,aM]
 cases b with
 |false=>simp_all
 |
  true=>
  rw[aC (by decide)]
  obtain⟨b1,hb1,hm1⟩:=Ep s hs.nM
  rw[hb1,aM]
  cases b1 with
  |false=>simp_all
  |
   true=>
   rw[aC (by decide)]
   obtain⟨b2,hb2,hm2⟩:=B9 s hs
   rw[hb2,aM]
   cases b2 with
   |false=>exact no _ 120 (by decide) rfl
   |
    true=>
    rw[aC (by decide)]
    have hU:UO s:=fun x hx f hf h1=>um ((hm2 rfl x hx).2 f hf) h1
    obtain⟨b3,hb3,hm3⟩:=GZ s hs hU
    rw[hb3,aM]
    cases b3 with
    |false=>exact no _ 120 (by decide) rfl
    |
     true=>
     rw[aC (by decide)]
     obtain⟨b4,hb4⟩:=xU s hs
     rw[hb4,aM,aM]
     cases b4 with
     |false=>exact no _ 120 (by decide) rfl
     |true=>exact⟨0,rfl,fun _=>⟨hbm rfl,fun x hx=>(hm2 rfl x hx).1.1,fun x hx=>(hm2 rfl x hx).2,hU,hm3 rfl,fun x hx=>(hm2 rfl x hx).1.2,hm1 rfl⟩⟩
structure SS(s:cu):Prop where
 oM:s.1.length≤aH
 nM:s.2.1.length≤aH
 dq:s.2.2.1.length≤aH
 rules:s.2.2.2.1.length≤aH
 i6:s.2.2.2.2.1.length≤aH
 fp:s.2.2.2.2.2.1.length≤aH
 fields:∀x∈s.2.2.1,x.2.2.2.2.1.length≤aH∧∀f∈x.2.2.2.2.1,(dT f.2.1).length≤aH
 Ca:∀x∈s.2.2.1,x.2.2.2.2.2.1.length≤aH∧∀d∈x.2.2.2.2.2.1,d.1.length≤aH∧d.2.2.1.length≤aH
 rl:∀r∈s.2.2.2.1,r.2.2.1.length≤aH∧r.2.2.2.1.length≤aH∧r.2.2.2.2.1.length≤aH
 mv:∀c∈s.2.2.2.2.1,c.2.2.2.2.1.length≤aH
 may:∀p∈s.2.2.2.2.2.1,p.2.1.length≤aH
theorem Wm(x y:ZM)(hl:y.length≤aH):∃r,f145 x y=some r:=Pw .str (fun a b=>decide (a=b)) x y fun e=>e▸hl
theorem aiL(x y:Ze)(hl:y.length≤aH):∃r,f73 x y=some r:=Pw (.int .i64) (fun a b=>decide (a=b)) x y fun e=>e▸hl
theorem xV(a b:J3)(h:(dT b.2.1).length≤aH):∃r,f207 a b=some r:=by
 obtain⟨q,hq⟩:=Wm (dT a.2.1) (dT b.2.1) h
 unfold f207
 grind
theorem uF(a b:xM)(h:b.1.length≤aH)(h2:b.2.2.1.length≤aH):∃r,f209 a b=some r:=by
 obtain⟨q,hq⟩:=Wm a.1 b.1 h
 obtain⟨q2,hq2⟩:=aiL a.2.2.1 b.2.2.1 h2
 unfold f209
 grind
theorem uG(a b:l6)(h1:b.2.2.2.2.1.length≤aH∧∀f∈b.2.2.2.2.1,(dT f.2.1).length≤aH)(h2:b.2.2.2.2.2.1.length≤aH∧∀d∈b.2.2.2.2.2.1,d.1.length≤aH∧d.2.2.1.length≤aH):∃r,f148 a b=some r:=by
 obtain⟨q,hq⟩:∃r,Ay a.2.2.2.2.1 b.2.2.2.2.1=some r:=WU bP f207 _ _ (fun x _ y hy=>xV x y (h1.2 y hy)) fun e=>e▸h1.1
 obtain⟨q2,hq2⟩:∃r,Az a.2.2.2.2.2.1 b.2.2.2.2.2.1=some r:=WU fC f209 _ _ (fun x _ y hy=>uF x y (h2.2 y hy).1 (h2.2 y hy).2) fun e=>e▸h2.1
 unfold f148
 grind
theorem yx(a b:dt)(h:b.2.2.1.length≤aH∧b.2.2.2.1.length≤aH∧b.2.2.2.2.1.length≤aH):∃r,f150 a b=some r:=by
 obtain⟨q1,hq1⟩:∃r,f210 a.2.2.1 b.2.2.1=some r:=Pw aQ (fun x y=>bl aQ x y) _ _ fun e=>e▸h.1
 obtain⟨q2,hq2⟩:∃r,f211 a.2.2.2.1 b.2.2.2.1=some r:=Pw aV (fun x y=>bl aV x y) _ _ fun e=>e▸h.2.1
 obtain⟨q3,hq3⟩:∃r,f212 a.2.2.2.2.1 b.2.2.2.2.1=some r:=Pw bu (fun x y=>bl bu x y) _ _ fun e=>e▸h.2.2
 unfold f150
 grind
theorem tp(a b:th)(h:b.2.2.2.2.1.length≤aH):∃r,f152 a b=some r:=by
 obtain⟨q1,hq1⟩:∃r,f213 a.2.2.2.2.1 b.2.2.2.2.1=some r:=Pw aU (fun x y=>bl aU x y) _ _ fun e=>e▸h
 unfold f152
 grind
theorem tq(a b:oP)(h:b.2.1.length≤aH):∃r,f154 a b=some r:=by
 obtain⟨q1,hq1⟩:∃r,f214 a.2.1 b.2.1=some r:=Pw fe (fun x y=>bl fe x y) _ _ fun e=>e▸h
 unfold f154
 grind
theorem Er(a s:cu)(hs:SS s):∃r,f105 a s=some r:=by
 obtain⟨q1,hq1⟩:=Wm a.1 s.1 hs.oM
 obtain⟨q2,hq2⟩:∃r,f146 a.2.1 s.2.1=some r:=Pw aU (fun x y=>bl aU x y) _ _ fun e=>e▸hs.nM
 obtain⟨q3,hq3⟩:∃r,AA a.2.2.1 s.2.2.1=some r:=WU bF f148 _ _ (fun x _ y hy=>uG x y (hs.fields y hy) (hs.Ca y hy)) fun e=>e▸hs.dq
 obtain⟨q4,hq4⟩:∃r,Bp a.2.2.2.1 s.2.2.2.1=some r:=WU bG f150 _ _ (fun x _ y hy=>yx x y (hs.rl y hy)) fun e=>e▸hs.rules
 obtain⟨q5,hq5⟩:∃r,Bq a.2.2.2.2.1 s.2.2.2.2.1=some r:=WU gA f152 _ _ (fun x _ y hy=>tp x y (hs.mv y hy)) fun e=>e▸hs.i6
 obtain⟨q6,hq6⟩:∃r,Br a.2.2.2.2.2.1 s.2.2.2.2.2.1=some r:=WU dL f154 _ _ (fun x _ y hy=>tq x y (hs.may y hy)) fun e=>e▸hs.fp
 unfold f105
 grind
theorem xW(a b:Int)(h:0≤b):∃r,f250 a b=some r:=⟨_,aA h⟩
theorem aat(m:Int)(d:xM)(l:Ze)(hl:l.length≤aH):∀(n i:Nat)(e:Int),l.length -i<n→i≤l.length→(∃e',oG n (m,e,l,(l.length:Int),(i:Int),d)=some (.brk (m,e',d)))∨oG n (m,e,l,(l.length:Int),(i:Int),d)=some (.ret false):=by
 intro n
 have hB:=hB
 induction n with
 |zero=>grind
 |
  succ n ih=>
  intro i e hn hi
  unfold oG at ih ⊢
  rw[aN]
  generalize aL _ n=rec at ih ⊢
  dsimp only
  by_cases h:i<l.length
  ·rw[cz (by omega),dV i,aA (show(i:Int)<(l.length:Int) by omega),aY (by omega)]
   by_cases h0:nth (.int .i64) l (i:Int)<(0:Int)
   ·rw[cz h0];exact Or.inr rfl
   ·rw[aC (show¬decide (nth (.int .i64) l (i:Int)<(0:Int))=true by grind)]
    obtain⟨q,hq⟩:=xW e (nth (.int .i64) l (i:Int)) (Int.not_lt.1 h0)
    rw[hq]
    have key:∀v:Bool,(∃e',(if v=true then(bU (some false)) else(if 0≤(nth (.int .i64) l (i:Int)) then(rec (m,iD .or .u64 e (IntKind.u64.wrap ((1:Int)*2^(min (Int.toNat (nth (.int .i64) l (i:Int))) 64))),l,(l.length:Int),((i+1:Nat):Int),d)) else none))=some (.brk (m,e',d)))∨(if v=true then(bU (some false)) else(if 0≤(nth (.int .i64) l (i:Int)) then(rec (m,iD .or .u64 e (IntKind.u64.wrap ((1:Int)*2^(min (Int.toNat (nth (.int .i64) l (i:Int))) 64))),l,(l.length:Int),((i+1:Nat):Int),d)) else none))=some (.ret false):=fun v=>by
     cases v with
     |true=>exact Or.inr rfl
     |
      false=>
      rw[aC (by decide),aA (Int.not_lt.1 h0)]
      exact ih (i+1) _ (by omega) (by omega)
    split
    ·simp_all
    ·exact key q
  grind
theorem Cb(d:xM)(m:Int)(hl:d.2.2.1.length≤aH):∃r,f196 d m=some r:=by
 unfold f196
 have e:=aat m d d.2.2.1 hl (Int.toNat (d.2.2.1.length:Int)+1) 0 0 (by omega) (by omega)
 rcases e with⟨e',e⟩|e
 ·have h:oG (Int.toNat (d.2.2.1.length:Int)+1) (m,0,d.2.2.1,(d.2.2.1.length:Int),0,d)=some (.brk (m,e',d)):=e
  rw[h,aG]
  dsimp only
  refine kr ?_ fun v=>⟨v,rfl⟩
  by_cases h0:0≤d.2.2.2.1
  ·obtain⟨q,hq⟩:=xW e' d.2.2.2.1 h0
   grind
  ·rw[aC (show¬decide ((0:Int)≤d.2.2.2.1)=true by grind)]
   simp_all
 ·have h:oG (Int.toNat (d.2.2.1.length:Int)+1) (m,0,d.2.2.1,(d.2.2.1.length:Int),0,d)=some (.ret false):=e
  rw[h,dp]
  grind
theorem aau(x:l6)(l:GH)(hl:l.length≤aH)(hd:∀d∈l,d.2.2.1.length≤aH):∀(n i:Nat),l.length -i<n→i≤l.length→∃r,aI (U:=Unit) (rK n (l,(l.length:Int),(i:Int),x)) (fun _=>some (0:Int))=some r:=by
 intro n
 have hB:=hB
 induction n with
 |zero=>grind
 |
  succ n ih=>
  intro i hn hi
  unfold rK at ih ⊢
  rw[aN]
  generalize aL _ n=rec at ih ⊢
  dsimp only
  by_cases h:i<l.length
  ·obtain⟨r,hr⟩:=Cb l[i] (x.2.2.2.2.1.length:Int) (hd _ (eT h))
   rw[cz (by omega),dV i,aA (show(i:Int)<(l.length:Int) by omega),cK (t:=fC) h,aY (by omega),hr,aM]
   cases r with
   |false=>exact⟨_,rfl⟩
   |true=>grind
  ·rw[aC (by grind)]
   exact⟨_,rfl⟩
theorem Cc(x:l6)(hl:x.2.2.2.2.2.1.length≤aH)(hd:∀d∈x.2.2.2.2.2.1,d.2.2.1.length≤aH):∃r,f138 x=some r:=by
 unfold f138
 have h4:∃r,aI (U:=Unit) (rK (Int.toNat (x.2.2.2.2.2.1.length:Int)+1) (x.2.2.2.2.2.1,(x.2.2.2.2.2.1.length:Int),0,x)) (fun _=>some (0:Int))=some r:=aau x _ hl hd _ 0 (by omega) (by omega)
 have h2:∀v:Bool,∃r,aI (U:=l6) (if v=true then(bU (some (130:Int))) else(some (.brk x))) (fun v1=>aI (U:=Unit) (rK (Int.toNat (v1.2.2.2.2.2.1.length:Int)+1) (v1.2.2.2.2.2.1,(v1.2.2.2.2.2.1.length:Int),0,v1)) fun _=>some (0:Int))=some r:=fun v=>by
  cases v with
  |true=>exact⟨_,rfl⟩
  |false=>exact h4
 split
 ·simp_all
 ·split
  ·simp_all
  ·exact h2 _
theorem xX(s:cu)(hs:SS s):∃r,f101 s=some r:=by
 have hB:=hB
 have key:∀(n i:Nat),s.2.2.1.length -i<n→i≤s.2.2.1.length→∃r,aI (U:=Unit) (BE n (s.2.2.1,(s.2.2.1.length:Int),(i:Int))) (fun _=>some (0:Int))=some r:=by
  intro n
  have hl:=hs.dq
  induction n with
  |zero=>grind
  |
   succ n ih=>
   intro i hn hi
   unfold BE at ih ⊢
   rw[aN]
   generalize aL _ n=rec at ih ⊢
   dsimp only
   by_cases h:i<s.2.2.1.length
   ·have hd:=hs.Ca _ (eT h)
    obtain⟨r,hr⟩:=Cc s.2.2.1[i] hd.1 fun d hdm=>(hd.2 d hdm).2
    rw[cz (by omega),dV i,aA (show(i:Int)<(s.2.2.1.length:Int) by omega),cK (t:=bF) h,aY (by omega),hr,aM]
    split
    ·exact⟨_,rfl⟩
    grind
   ·rw[aC (by grind)]
    exact⟨_,rfl⟩
 exact key _ 0 (by omega) (by omega)
theorem Kg(l:Ze)(m:Int)(hl:l.length≤1000000):∃b d,Ah l m []=some (b,d):=by
 have hB:=hB
 have key:∀(n i:Nat)(d:Zu),l.length -i<n→i≤l.length→d.length≤i→∃b d',aI (U:=Ze×Int×Zu) (pj n (l,m,l,(l.length:Int),(i:Int),d)) (fun u=>match u with|⟨a,b,c⟩=>some (decide ((a.length:Int)=b),c))=some (b,d'):=by
  intro n
  induction n with
  |zero=>grind
  |
   succ n ih=>
   intro i d hn hi hd
   unfold pj at ih ⊢
   rw[aN]
   generalize aL _ n=rec at ih ⊢
   dsimp only
   by_cases h:i<l.length
   ·rw[cz (by omega),dV i,aA (show(i:Int)<(l.length:Int) by omega)]
    split
    ·exact⟨_,_,rfl⟩
    ·rw[aA (by omega),aY (by omega)]
     exact ih (i+1) _ (by omega) (by omega) (dh (dy (kt:=.int .i64)) (by omega))
   ·rw[aC (by grind)]
    exact⟨_,_,rfl⟩
 exact key _ 0 [] (by omega) (by omega) (by simp)
theorem xR.len{s:cu}{l:Ze}(h:xR s l):l.length≤s.2.2.1.length:=gB _ l h.i7 fun x hx=>(h.all x).1 hx
theorem TG.sb{s:cu}(h:TG s)(hs:SW s):SB s:=⟨by have:=h.many;omega,hs.rules,fun r hr=>(hs.rl r hr).1⟩
theorem Kh(s:cu)(hs:SW s):∃r,f139 s=some r∧(r=0→TG s):=by
 unfold f139
 obtain⟨r,hr,hm⟩:=Ae s hs
 rw[hr,aM]
 by_cases h:r=0
 ·rw[aC (by simp[h])]
  have hT:=hm h
  obtain⟨l,ok,e,ho,_⟩:=Eo (hT.sb hs)
  grind
 grind
theorem G0(s:cu)(hs:SW s):∃r,f102 s=some r∧(r=0→TG s∧∃l,f104 s=some (l,true,0)∧xR s l):=by
 unfold f102
 obtain⟨r,hr,hm⟩:=Kh s hs
 rw[hr,aM]
 by_cases h:r=0
 ·rw[aC (by simp[h])]
  have hT:=hm h
  obtain⟨l,ok,e,ho,hk⟩:=Eo (hT.sb hs)
  rw[ho,aM]
  dsimp only
  by_cases he:e=0
  ·subst he
   rw[aC (by decide)]
   cases ok with
   |false=>grind
   |
    true=>
    rw[aC (by decide)]
    have hR:=hk rfl rfl fun r hr=>⟨(hT.rules r hr).h0,(hT.rules r hr).h1⟩
    obtain⟨b,d,hw⟩:=Kg l (s.2.2.1.length:Int) (by have:=hR.len;have:=hT.many;omega)
    grind
  grind
 grind
theorem tu(s:cu)(hN:NB s)(a b v:Int):∃r,f122 s a b v=some r:=by
 unfold f122
 rcases lk (s,()) a b with⟨hi,e⟩|⟨_,y,e⟩
 ·rw[e,aM]
  dsimp only
  rw[aA rfl]
  have hm:=hi.mem
  obtain⟨q,hq⟩:=qd (s,()) (nth bP (cC s a) b).2.1 ((hN _ hm.1).2 _ hm.2)
  grind
 simp_all
theorem Af(s:cu)(hN:NB s)(a:Int):∃r,f197 s a=some r∧(r=true→0≤a∧a<(s.2.2.1.length:Int)):=by
 have hB:=hB
 have no:∀y:Zm,y=some false→∃r,y=some r∧(r=true→0≤a∧a<(s.2.2.1.length:Int)):=fun y hy=>⟨false,hy,fun h=>(by cases h)⟩
 unfold f197
 by_cases h0:a<0
 ·rw[cz h0];exact no _ rfl
 ·rw[aC (show¬decide (a<(0:Int))=true by grind)]
  by_cases h1:(s.2.2.1.length:Int)≤a
  ·rw[cE h1];exact no _ rfl
  ·rw[du h1,aM,aC (by decide),aG]
   dsimp only
   rw[aA (Int.not_lt.1 h0),aA (Int.not_le.1 h1)]
   have yes:∀y:Zm,(∃z,y=some z)→∃z,y=some z∧(z=true→0≤a∧a<(s.2.2.1.length:Int)):=fun y ⟨z,hz⟩=>⟨z,hz,fun _=>⟨Int.not_lt.1 h0,Int.not_le.1 h1⟩⟩
   apply yes
   have hl:=(hN _ (dc (t:=bF) (l:=s.2.2.1) (a:=a) (Int.not_lt.1 h0) (Int.not_le.1 h1))).1
   generalize (nth bF s.2.2.1 a).2.2.2.2.1=l at hl ⊢
   have key:∀(n i:Nat),l.length -i<n→i≤l.length→nN n (a,l,l,(l.length:Int),(i:Int),s)=some (.brk l)∨nN n (a,l,l,(l.length:Int),(i:Int),s)=some (.ret false):=by
    intro n
    induction n with
    |zero=>grind
    |
     succ n ih=>
     intro i hn hi
     unfold nN at ih ⊢
     rw[aN]
     generalize aL _ n=rec at ih ⊢
     dsimp only
     by_cases h:i<l.length
     ·rw[cz (by omega),dV i,aA (show(i:Int)<(l.length:Int) by omega),aY (by omega)]
      obtain⟨q,hq⟩:=tu s hN a (i:Int) (nth bP l (i:Int)).2.1.2.1
      rw[hq,aM]
      cases q with
      |false=>exact Or.inr rfl
      |true=>grind
     grind
   have e:=key (Int.toNat (l.length:Int)+1) 0 (by omega) (by omega)
   rcases e with e|e
   ·have e':nN (Int.toNat (l.length:Int)+1) (a,l,l,(l.length:Int),0,s)=some (.brk l):=e
    rw[e',aG]
    refine kr ?_ fun v=>⟨v,rfl⟩
    by_cases hp:(0:Int)<(l.length:Int)<;>simp_all
   ·have e':nN (Int.toNat (l.length:Int)+1) (a,l,l,(l.length:Int),0,s)=some (.ret false):=e
    rw[e',dp];grind
theorem NP(a b:dH)(n:Int):∃r,f198 a b n=some r:=by
 unfold f198
 by_cases h1:a.1=b.1
 ·rw[aC (by simp[h1])]
  by_cases e1:a.1=1
  ·rw[cz e1,aM,aA rfl]
   repeat' (first|exact⟨_,rfl⟩|split)
  ·rw[aC (show¬decide (a.1=(1:Int))=true by grind)]
   by_cases e2:a.1=2
   ·rw[cE e2,aM,aA rfl]
    repeat' (first|exact⟨_,rfl⟩|split)
   ·rw[du e2,aM,aC (by decide),aG]
    dsimp only
    refine kr ?_ fun v=>⟨v,rfl⟩
    repeat' (first|exact⟨_,rfl⟩|split)
 simp_all
theorem aav(l m:ZH)(k:Zw)(hk:k.length≤aH):∀(n i:Nat)(N O:List Bool),k.length -i<n→i≤k.length→N.length=l.length→O.length=m.length→
 ∃r,aI (U:=Unit) (qg n (l,m,k,(k.length:Int),(i:Int),N,O)) (fun _=>some true)=some r:=by
 intro n
 have hB:=hB
 induction n with
 |zero=>grind
 |
  succ n ih=>
  intro i N O hn hi hN hO
  unfold qg at ih ⊢
  rw[aN]
  generalize aL _ n=rec at ih ⊢
  dsimp only
  by_cases h:i<k.length
  ·rw[cz (by
    omega),dV i,aA (show(i:Int)<(k.length:Int) by omega)]
   generalize nth aU k (i:Int)=mv
   by_cases h1:mv.2.2.2.1<(1:Int)
   ·rw[cz h1];exact⟨_,rfl⟩
   ·rw[aC (show¬decide (mv.2.2.2.1<(1:Int))=true by grind)]
    by_cases h2:(l.length:Int)≤mv.2.2.2.1
    ·rw[cz h2];exact⟨_,rfl⟩
    ·rw[aC (show¬decide ((l.length:Int)≤mv.2.2.2.1)=true by grind)]
     by_cases h3:mv.2.2.1<(1:Int)
     ·rw[cz h3];exact⟨_,rfl⟩
     ·rw[aC (show¬decide (mv.2.2.1<(1:Int))=true by grind)]
      by_cases h4:(m.length:Int)≤mv.2.2.1
      ·rw[cz h4];exact⟨_,rfl⟩
      ·rw[aC (show¬decide ((m.length:Int)≤mv.2.2.1)=true by grind)]
       have p0:(0:Int)≤mv.2.2.2.1:=Int.le_trans (by decide) (Int.not_lt.1 h1)
       have p1:mv.2.2.2.1<(l.length:Int):=Int.not_le.1 h2
       have q0:(0:Int)≤mv.2.2.1:=Int.le_trans (by decide) (Int.not_lt.1 h3)
       have q1:mv.2.2.1<(m.length:Int):=Int.not_le.1 h4
       have p2:mv.2.2.2.1<(N.length:Int):=by grind
       have q2:mv.2.2.1<(O.length:Int):=by grind
       rw[aA p0,aA p2]
       have key:∀v:Bool,∃r,aI (U:=Unit) (aI (U:=ZH×ZH×Zw×Int×Int×gU×List Bool×List Bool) (if v=true then(bU (bU (some false))) else(some (.brk (l,m,k,(k.length:Int),(i:Int),mv,N,O)))) fun u=>match u with|⟨d,e,f,g,h,a,b,c⟩=>if 0≤a.2.2.2.1 then(if a.2.2.2.1<(b.length:Int) then(if 0≤a.2.2.1 then(if a.2.2.1<(c.length:Int) then(if 0≤a.2.2.2.1 then(if a.2.2.2.1<(d.length:Int) then(if 0≤a.2.2.1 then(if a.2.2.1<(e.length:Int) then((f198 (((nth bP d a.2.2.2.1).2).1) (((nth bP e a.2.2.1).2).1) a.2.2.2.2.1).bind fun y12=>if !y12 then(bU (some false)) else(rec (d,e,f,g,bq (h+(1:Int)),List.set b (Int.toNat a.2.2.2.1) true,List.set c (Int.toNat a.2.2.1) true))) else none) else none) else none) else none) else none) else none) else none) else none) (fun _=>some true)=some r:=fun v=>by
        cases v with
        |true=>exact⟨_,rfl⟩
        |
         false=>
         rw[aC (by decide),aG]
         dsimp only
         rw[aA p0,aA p2,aA q0,aA q2,aA p0,aA p1,aA q0,aA q1]
         obtain⟨z,hz⟩:=NP ((nth bP l mv.2.2.2.1).2).1 ((nth bP m mv.2.2.1).2).1 mv.2.2.2.2.1
         rw[hz,aM]
         cases z with
         |false=>exact⟨_,rfl⟩
         |
          true=>
          rw[aC (by decide),aY (by omega)]
          grind [jj]
       split
       ·exact key true
       ·exact key _
  ·rw[aC (by grind)]
   trivial
theorem G1(s:cu)(hN:NB s)(c:th)(hc:c.2.2.2.2.1.length≤aH):∃r,f141 s c=some r:=by
 have hB:=hB
 unfold f141
 by_cases h0:c.2.2.1=c.2.2.2.1
 ·rw[cz h0];exact⟨_,rfl⟩
 ·rw[aC (show¬decide (c.2.2.1=c.2.2.2.1)=true by grind)]
  obtain⟨r1,e1,m1⟩:=Af s hN c.2.2.1
  rw[e1,aM]
  cases r1 with
  |false=>exact⟨_,rfl⟩
  |
   true=>
   rw[aC (by decide)]
   obtain⟨r2,e2,m2⟩:=Af s hN c.2.2.2.1
   rw[e2,aM,aM]
   cases r2 with
   |false=>exact⟨_,rfl⟩
   |
    true=>
    rw[aC (by decide),aG]
    dsimp only
    have a1:=m1 rfl
    have a2:=m2 rfl
    rw[aA a1.1,aA a1.2,aA a2.1,aA a2.2]
    have l1:=(hN _ (dc (t:=bF) (l:=s.2.2.1) a1.1 a1.2)).1
    have l2:=(hN _ (dc (t:=bF) (l:=s.2.2.1) a2.1 a2.2)).1
    generalize (nth bF s.2.2.1 c.2.2.1).2.2.2.2.1=l at l1 ⊢
    generalize (nth bF s.2.2.1 c.2.2.2.1).2.2.2.2.1=m at l2 ⊢
    have h8:∃r,aI (U:=Unit) (qg (Int.toNat (c.2.2.2.2.1.length:Int)+1) (l,m,c.2.2.2.2.1,(c.2.2.2.2.1.length:Int),0,List.replicate (Int.toNat (l.length:Int)) false,List.replicate (Int.toNat (m.length:Int)) false)) (fun _=>some true)=some r:=
     aav l m c.2.2.2.2.1 hc _ 0 _ _ (by omega) (by omega) (by grind) (by grind)
    have key:∀v:Bool,∃r,aI (U:=ZH×ZH×th) (if v=true then(bU (some false)) else(some (.brk (l,m,c)))) (fun u=>match u with|⟨c,d,e⟩=>if 0≤(c.length:Int) then(if(c.length:Int)≤(c.length:Int) then(if(c.length:Int)*(1:Int)≤(aH:Int) then(if 0≤(d.length:Int) then(if(d.length:Int)≤(d.length:Int) then(if(d.length:Int)*(1:Int)≤(aH:Int) then(aI (U:=Unit) (qg (Int.toNat (e.2.2.2.2.1.length:Int)+1) (c,d,e.2.2.2.2.1,(e.2.2.2.2.1.length:Int),0,List.replicate (Int.toNat (c.length:Int)) false,List.replicate (Int.toNat (d.length:Int)) false)) fun _=>some true) else none) else none) else none) else none) else none) else none)=some r:=fun v=>by
     cases v with
     |true=>exact⟨_,rfl⟩
     |
      false=>
      rw[aC (by decide),aG]
      grind
    split
    ·simp_all
    ·exact key _
theorem G2(s:cu)(hN:NB s)(hs:SS s):∃r,f103 s=some r:=by
 have hB:=hB
 have hl:=hs.i6
 have key:∀(n i:Nat),s.2.2.2.2.1.length -i<n→i≤s.2.2.2.2.1.length→∃r,aI (U:=Unit) (Ai n (s.2.2.2.2.1,(s.2.2.2.2.1.length:Int),(i:Int),s)) (fun _=>some (0:Int))=some r:=by
  intro n
  induction n with
  |zero=>grind
  |
   succ n ih=>
   intro i hn hi
   unfold Ai at ih ⊢
   rw[aN]
   generalize aL _ n=rec at ih ⊢
   dsimp only
   by_cases h:i<s.2.2.2.2.1.length
   ·obtain⟨r,hr⟩:=G1 s hN s.2.2.2.2.1[i] (hs.mv _ (eT h))
    rw[cz (by omega),dV i,aA (show(i:Int)<(s.2.2.2.2.1.length:Int) by omega),cK (t:=gA) h,aY (by omega),hr,aM]
    cases r with
    |false=>exact⟨_,rfl⟩
    |true=>grind
   ·rw[aC (by grind)]
    exact⟨_,rfl⟩
 exact key _ 0 (by omega) (by omega)
theorem Ki(l:ZM)(hl:l.length≤aH):∃M b,VR l.length M∧BJ l=some (some M,b):=kR .str f223 (fun x=>x) (fun _=>rfl) l hl
theorem G3(l:Zw)(hl:l.length≤aH):∃M b,VR l.length M∧BK l=some (some M,b):=kR aU f225 (fun x=>x.1) (fun _=>rfl) l hl
theorem Cd(l:ZG)(hl:l.length≤aH):∃M b,VR l.length M∧BL l=some (some M,b):=kR bF f227 (fun x=>x.1) (fun _=>rfl) l hl
theorem yy(l:ZE)(hl:l.length≤aH):∃M b,VR l.length M∧BM l=some (some M,b):=kR dL f229 (fun x=>x.1) (fun _=>rfl) l hl
theorem Es(l:ZH)(hl:l.length≤aH):∃M b,VR l.length M∧BN l=some (some M,b):=kR bP f231 (fun x=>x.1) (fun _=>rfl) l hl
theorem G4(l:Zy)(hl:l.length≤aH):∃M b,VR l.length M∧BO l=some (some M,b):=kR aQ f233 (fun x=>x.1) (fun _=>rfl) l hl
theorem find_eq{n:Nat}(m:Za)(h:VR n (aX m))(k:Zi):f234 m k=some (.inl ((),()))∨∃x,f234 m k=some (.inr x)∧0≤x∧x<(n:Int):=by
 unfold f234
 cases hk:bT .str k (aX m) with
 |false=>grind
 |true=>exact Or.inr ⟨_,aC (by decide),h.get hk⟩
abbrev OM:=Za
theorem Wn(s:cu)(i u m:OM)(l:ZG)(hl:l.length*96≤aH)(hf:∀x∈l,x.2.2.2.2.1.length≤aH):∀(n c:Nat)(g:Bool)(f:List OM),l.length -c<n→c≤l.length→f.length=c→(∀j(hj:j<f.length)(hj':j<l.length),VR l[j].2.2.2.2.1.length (aX f[j]))→
 ∃g' f',kj n (g,l,(l.length:Int),(c:Int),s,i,u,m,f)=some (.brk (g',s,i,u,m,f'))∧f'.length=l.length∧∀j(hj:j<f'.length)(hj':j<l.length),VR l[j].2.2.2.2.1.length (aX f'[j]):=by
 intro n
 have hB:=hB
 induction n with
 |zero=>grind
 |
  succ n ih=>
  intro c g f hn hc hfl hv
  unfold kj at ih ⊢
  rw[aN]
  generalize aL _ n=rec at ih ⊢
  dsimp only
  by_cases h:c<l.length
  ·obtain⟨M,b,hM,e⟩:=Es l[c].2.2.2.2.1 (hf _ (eT h))
   rw[cz (by omega),dV c,aA (show(c:Int)<(l.length:Int) by omega),cK (t:=bF) h,e,aM]
   dsimp only
   rw[aA (show(f.length+List.length [_])*8≤aH by grind),aY (by omega)]
   have key:∀v:Bool,∃g' f',rec (v,l,(l.length:Int),((c+1:Nat):Int),s,i,u,m,f++[some M])=some (.brk (g',s,i,u,m,f'))∧f'.length=l.length∧∀j(hj:j<f'.length)(hj':j<l.length),VR l[j].2.2.2.2.1.length (aX f'[j]):=fun v=>
    ih (
     c+1) v _ (by omega) (by omega) (by grind) fun j hj hj'=>by
     by_cases ej:j<f.length
     ·grind
     ·have:j=c:=by grind
      subst this
      rw[List.getElem_append_right (by omega)]
      simp only[hfl,Nat.sub_self,List.getElem_singleton]
      exact hM
   split
   ·simp_all
   ·rw[aM];exact key b
  ·rw[aC (by grind)]
   grind
theorem Wo(i u m:OM)(fs:List OM)(l:Zo)(hl:l.length≤aH)(hf:∀x∈l,x.2.2.1.length≤aH):∀(n c:Nat)(g:Bool),l.length -c<n→c≤l.length→
 ∃g',ko n (g,l,(l.length:Int),(c:Int),i,u,m,fs)=some (.brk (g',i,u,m,fs)):=by
 intro n
 have hB:=hB
 induction n with
 |zero=>grind
 |
  succ n ih=>
  intro c g hn hc
  unfold ko at ih ⊢
  rw[aN]
  generalize aL _ n=rec at ih ⊢
  dsimp only
  by_cases h:c<l.length
  ·obtain⟨M,b,_,e⟩:=G4 l[c].2.2.1 (hf _ (eT h))
   rw[cz (by omega),dV c,aA (show(c:Int)<(l.length:Int) by omega),cK (t:=bG) h,e,aM]
   dsimp only
   rw[aY (by omega)]
   split
   ·rw[aM];exact ih (c+1) true (by omega) (by omega)
   ·rw[aM];exact ih (c+1) b (by omega) (by omega)
  simp_all[aC]
theorem Kj(s:cu)(hs:SS s)(h96:s.2.2.1.length*96≤aH):∃tw i u m fs,vD s=some (tw,i,u,m,fs)∧VR s.1.length (aX i)∧VR s.2.1.length (aX u)∧VR s.2.2.1.length (aX m)∧fs.length=s.2.2.1.length∧∀j(hj:j<fs.length)(hj':j<s.2.2.1.length),VR s.2.2.1[j].2.2.2.2.1.length (aX fs[j]):=by
 have hB:=hB
 obtain⟨M1,b1,v1,e1⟩:=Ki s.1 hs.oM
 obtain⟨M2,b2,v2,e2⟩:=G3 s.2.1 hs.nM
 obtain⟨M3,b3,v3,e3⟩:=Cd s.2.2.1 hs.dq
 obtain⟨M4,b4,_,e4⟩:=yy s.2.2.2.2.2.1 hs.fp
 unfold vD
 rw[e1,aM]
 dsimp only
 rw[e2,aM]
 dsimp only
 have orT:∀(a b:Bool)(K:Bool→Option (Bool×OM×OM×OM×List OM))(P:Option (Bool×OM×OM×OM×List OM)→Prop),(∀v,P (K v))→P (Option.bind (α:=Bool) (if a=true then(some true) else(some b)) K):=fun a b K P h=>by
  grind
 refine orT _ _ _ (fun y=>∃tw i u m fs,y=some (tw,i,u,m,fs)∧VR s.1.length (aX i)∧VR s.2.1.length (aX u)∧VR s.2.2.1.length (aX m)∧fs.length=s.2.2.1.length∧∀j(hj:j<fs.length)(hj':j<s.2.2.1.length),VR s.2.2.1[j].2.2.2.2.1.length (aX fs[j])) fun w1=>?_
 rw[e3,aM]
 dsimp only
 refine orT _ _ _ (fun y=>∃tw i u m fs,y=some (tw,i,u,m,fs)∧VR s.1.length (aX i)∧VR s.2.1.length (aX u)∧VR s.2.2.1.length (aX m)∧fs.length=s.2.2.1.length∧∀j(hj:j<fs.length)(hj':j<s.2.2.1.length),VR s.2.2.1[j].2.2.2.2.1.length (aX fs[j])) fun w2=>?_
 rw[e4,aM]
 dsimp only
 refine orT _ _ _ (fun y=>∃tw i u m fs,y=some (tw,i,u,m,fs)∧VR s.1.length (aX i)∧VR s.2.1.length (aX u)∧VR s.2.2.1.length (aX m)∧fs.length=s.2.2.1.length∧∀j(hj:j<fs.length)(hj':j<s.2.2.1.length),VR s.2.2.1[j].2.2.2.2.1.length (aX fs[j])) fun w3=>?_
 obtain⟨g',f',e11,hl,hv⟩:=Wn s (some M1) (some M2) (some M3) s.2.2.1 h96 (fun x hx=>(hs.fields x hx).1) (Int.toNat (s.2.2.1.length:Int)+1) 0 w3 [] (by omega) (by omega) rfl (fun j hj=>by grind)
 have e11':kj (Int.toNat (s.2.2.1.length:Int)+1) (w3,s.2.2.1,(s.2.2.1.length:Int),0,s,some M1,some M2,some M3,([]:List OM))=some (.brk (g',s,some M1,some M2,some M3,f')):=e11
 rw[e11',aG]
 dsimp only
 obtain⟨g2,e18⟩:=Wo (some M1) (some M2) (some M3) f' s.2.2.2.1 hs.rules (fun x hx=>(hs.rl x hx).1) (Int.toNat (s.2.2.2.1.length:Int)+1) 0 g' (by omega) (by omega)
 have e18':ko (Int.toNat (s.2.2.2.1.length:Int)+1) (g',s.2.2.2.1,(s.2.2.2.1.length:Int),0,some M1,some M2,some M3,f')=some (.brk (g2,some M1,some M2,some M3,f')):=e18
 rw[e18',aG]
 exact⟨g2,some M1,some M2,some M3,f',rfl,v1,v2,v3,hl,hv⟩
theorem ph{n:Nat}{m:OM}(h:VR n (aX m)){k:Zi}{R:Type}{kp:Unit×Unit→Option R}{kn:Int→Option R}{P:R→Prop}(h1:W (kp ((),())) P)(h2:∀x,0≤x→x<(n:Int)→W (kn x) P):W (fh (f234 m k) kp kn) P:=by
 rcases find_eq m h k with e|⟨x,e,h0,hx⟩
 ·rw[e];exact h1
 ·rw[e];exact h2 x h0 hx
theorem mr(m:OM){k:Zi}{R:Type}{kp:Unit×Unit→Option R}{kn:Int→Option R}{P:R→Prop}(h1:W (kp ((),())) P)(h2:∀x,W (kn x) P):W (fh (f234 m k) kp kn) P:=by
 unfold f234
 cases bT .str k (aX m) with
 |false=>exact h1
 |true=>exact h2 _
theorem Kk(i u m:OM)(l:Zw)(fs:List OM)(hl:l.length≤aH)(hv:VR l.length (aX u)):W (vE i u m l fs) (ST (fun _=>True) fun r=>∃l',r=(i,u,m,l',fs)):=by
 have hB:=hB
 unfold vE
 refine bL.2 (W.ct (bX (L:=xJ) rfl (CT (fun d=>∃l',d=(i,u,m,l',fs)) fun r=>r= .inl ((),())) l.length (fun c(s:Zw)=>((l.length:Int),(c:Int),i,u,m,s,fs)) (fun _ s=>s.length=l.length) ?step ?stop _ 0 l (by omega) (by omega) rfl) (fun d ⟨l',h⟩=>?_) fun r h=>?_)
 case step=>
  intro rec c s hc hI k
  dsimp only
  rw[cz (by omega),dV c,aA (show(c:Int)<(s.length:Int) by omega),aY (by omega)]
  split
  ·grind
  ·refine ph hv ⟨_,rfl,rfl⟩ fun x h0 h1=>?_
   by_cases h:(c:Int)≤x
   ·rw[cz h];exact⟨_,rfl,rfl⟩
   ·rw[aC (show¬decide ((c:Int)≤x)=true by grind),aG]
    dsimp only
    rw[aA h0,aA (show x<(s.length:Int) by omega)]
    generalize hL:List.set _ _ _=L
    have hL':L.length=l.length:=by grind
    clear hL
    rw[aG]
    dsimp only
    have hx:x<(L.length:Int):=by omega
    rw[aA h0,aA hx]
    refine W.bt ?_ fun v=>?_
    ·repeat' (first|exact⟨_,rfl⟩|split)
    grind [aY]
 case stop=>
  intro rec s hI
  dsimp only
  rw[aC (by grind)]
  exact⟨_,rfl,s,rfl⟩
 ·subst h;exact⟨_,rfl,l',rfl⟩
 ·subst h;trivial
def Wp(x:l6):Prop:=x.2.2.2.2.1.length*120≤aH∧x.2.2.2.2.2.1.length*72≤aH∧∀d∈x.2.2.2.2.2.1,d.1.length*16≤aH
theorem G5(t i u m:OM)(l:ZG)(k:Nat)(a:l6)(fs:List OM)(hb:Wp a):W (vF t i u m l k a fs) (ST (fun _=>True) fun r=>∃x1 x2 x3 x4 x5 x6 x7,r=(i,u,m,l,k,x1,x2,x3,x4,x5,fs,x6,x7)):=by
 have hB:=hB
 unfold vF
 refine mr i ⟨_,rfl,trivial⟩ fun y1=>?_
 have e1:BX a.2.2.2.2.1=some a.2.2.2.2.1:=iH _ _ hb.1
 rw[e1,aM]
 have l1:a.2.2.2.2.1.length≤aH:=by have:=hb.1;omega
 refine bL.2 (W.ct (bX (L:=xL) rfl (CT (fun d=>∃s',d=(t,i,u,m,l,k,a.1,a.2.1,y1,a.2.2.2.1,a.2.2.2.2.2,fs,s')) fun r=>r= .inl ((),())) a.2.2.2.2.1.length (fun c(s:ZH)=>(t,(a.2.2.2.2.1.length:Int),(c:Int),i,u,m,l,k,a.1,a.2.1,y1,a.2.2.2.1,a.2.2.2.2.2,fs,s)) (fun _ s=>s.length=a.2.2.2.2.1.length) ?step ?stop _ 0 a.2.2.2.2.1 (by omega) (by omega) rfl) (fun d ⟨s',h⟩=>?_) fun r h=>?_)
 case step=>
  intro rec c s hc hI kk
  dsimp only
  have hw:=nY c (by omega)
  rw[cz (by omega),dV c,aA (show(c:Int)<(s.length:Int) by omega)]
  generalize hL:List.set _ _ _=L
  have hL':L.length=a.2.2.2.2.1.length:=by grind
  clear hL
  rw[aG]
  dsimp only
  refine W.bt ?_ fun v=>?_
  ·split<;>exact⟨_,rfl⟩
  ·split
   ·exact mr u ⟨_,rfl,rfl⟩ fun x=>(by grind)
   grind
 case stop=>
  intro rec s hI
  dsimp only
  rw[aC (by grind)]
  exact⟨_,rfl,s,rfl⟩
 ·subst h
  dsimp only
  have e2:BY a.2.2.2.2.2.1=some a.2.2.2.2.2.1:=iH _ _ hb.2.1
  rw[e2,aM]
  have l2:a.2.2.2.2.2.1.length≤aH:=by have:=hb.2.1;omega
  refine bL.2 (W.ct (bX (L:=ui) rfl (CT (fun d=>∃z,d=(i,u,m,l,k,a.1,a.2.1,y1,a.2.2.2.1,a.2.2.2.2.2.2,fs,s',z)) fun r=>r= .inl ((),())) a.2.2.2.2.2.1.length (fun c(s:GH)=>(t,(a.2.2.2.2.2.1.length:Int),(c:Int),i,u,m,l,k,a.1,a.2.1,y1,a.2.2.2.1,a.2.2.2.2.2.2,fs,s',s)) (fun _ s=>s.length=a.2.2.2.2.2.1.length∧∀d∈s,d.1.length*16≤aH) ?step ?stop _ 0 a.2.2.2.2.2.1 (by omega) (by omega) ⟨rfl,hb.2.2⟩) (fun d ⟨z,h⟩=>?_) fun r h=>?_)
  case step=>
   intro rec c s hc hI kk
   dsimp only
   have hcs:(c:Int)<(s.length:Int):=by grind
   have hn:(nth fC s (c:Int)).1.length*16≤aH:=hI.2 _ (dc (t:=fC) (dE c) hcs)
   have hw:=nY c (by omega)
   rw[cz (by omega),dV c,aA hcs]
   generalize nth fC s (c:Int)=w at hn ⊢
   refine bL.2 (bL.2 (W.ct (bX (L:=uh) rfl (CT (fun d=>∃e,d=(t,(a.2.2.2.2.2.1.length:Int),(c:Int),i,u,m,l,k,a.1,a.2.1,y1,a.2.2.2.1,a.2.2.2.2.2.2,fs,s',s,Int.toNat (c:Int),w.1,w.2.1,w.2.2.2,e)) fun r=>r= .ret (.ret (.inl ((),())))) w.1.length (fun j(e:Ze)=>(t,(a.2.2.2.2.2.1.length:Int),(c:Int),w.1,(w.1.length:Int),(j:Int),i,u,m,l,k,a.1,a.2.1,y1,a.2.2.2.1,a.2.2.2.2.2.2,fs,s',s,Int.toNat (c:Int),w.1,w.2.1,w.2.2.2,e)) (fun j e=>e.length=j) ?step2 ?stop2 _ 0 [] (by omega) (by omega) rfl) (fun d ⟨e,h⟩=>?_) fun r h=>?_))
   case step2=>
    intro rec2 j e hj hI2 kk2
    dsimp only
    have hw2:=nY j (by omega)
    rw[cz (by omega),dV j,aA (show(j:Int)<(w.1.length:Int) by omega)]
    refine mr t ⟨_,rfl,rfl⟩ fun x=>?_
    rw[aA (show(e.length+List.length [_])*8≤aH by rw[kJ];omega)]
    simp_all
   case stop2=>
    intro rec2 e hI2
    dsimp only
    rw[aC (by grind)]
    exact⟨_,rfl,e,rfl⟩
   ·subst h
    dsimp only
    refine mr t ⟨_,rfl,rfl⟩ fun x=>⟨_,rfl,?_⟩
    rw[iG]
    grind
   ·subst h;exact rfl
  case stop=>
   intro rec s hI
   dsimp only
   rw[aC (by grind)]
   exact⟨_,rfl,s,rfl⟩
  ·subst h
   exact⟨_,rfl,_,_,_,_,_,_,_,rfl⟩
  ·subst h;trivial
 ·subst h;trivial
def Sc(l:Zy):Ze:=l.map fun x=>x.2.2.1
theorem Ce(l:Zy):(Sc l).length=l.length:=jo ..
theorem G6(l:Zy)(i:Nat)(v:B1)(h:v.2.2.1=(l.getD i (Ty.aD aQ)).2.2.1):Sc (l.set i v)=Sc l:=by
 unfold Sc
 grind [List.ext_getElem,jo]
def VS(n K:Nat)(s:Ze):Prop:=n≤s.length∧∀j(h:j<s.length),j<n→0≤s[j]∧s[j]<(K:Int)
variable{K:Nat}
theorem VS.at'{n:Nat}{l:Zy}(h:VS n K (Sc l)){x:Int}(h0:0≤x)(h1:x<(n:Int)):x<(l.length:Int)∧0≤(nth aQ l x).2.2.1∧(nth aQ l x).2.2.1<(K:Int):=by
 have hn:=h.1
 rw[Ce] at hn
 have e:x=(x.toNat:Int):=by omega
 have hx:x.toNat<l.length:=by omega
 have hs:=h.2 x.toNat (by rw[Ce];exact hx) (by omega)
 rw[e,cK (t:=aQ) hx]
 grind [Sc]
theorem Wq(a0:Nat)(a1:Zy)(a2:Zq)(i u m:OM)(a6:Zo)(a7:Nat)(a8:Zi)(a9:Int)(a10:ZB×ZC×Unit)(fs:List OM)(n:Nat)(h0:a0<a1.length)(hv:VR n a2)(hs:VS n fs.length (Sc a1)):
 W (vG a0 a1 a2 i u m a6 a7 a8 a9 a10 fs) (ST (fun _=>True) fun r=>∃a1',r=(a1',a2,i,u,m,a6,a7,a8,a9,a10,fs)∧Sc a1'=Sc a1):=by
 unfold vG
 generalize hL:List.set (List.set a1 _ _) _ _=L
 have hL':Sc L=Sc a1:=by
  grind [G6]
 have hLl:a0<L.length:=by grind
 clear hL
 rw[aG]
 dsimp only
 split
 ·refine bL.2 (ph (m:=some a2) hv ⟨_,rfl,trivial⟩ fun x hx0 hx1=>⟨_,rfl,?_⟩)
  rw[iG]
  generalize hM:List.set _ _ _=M
  have hg:(List.getD M a0 (Ty.aD aQ)).2.2.2.1.2.2.1=x:=by grind
  have hM':Sc M=Sc a1:=by grind [G6]
  clear hM
  dsimp only
  rw[←hM'] at hs
  obtain⟨q1,q2,q3⟩:=hs.at' hx0 hx1
  rw[hg,aA hx0,aA q1,aA q2,aA q3]
  refine mr _ ⟨_,rfl,trivial⟩ fun y=>⟨_,rfl,_,rfl,?_⟩
  rw[G6 _ _ _ (by rfl)];exact hM'
 ·exact⟨_,rfl,_,rfl,hL'⟩
theorem Wr(a0:Nat)(a1:ZB)(a2:Zq)(i u m:OM)(a6:Zo)(a7:Nat)(a8:Zi)(a9:Int)(a10:ZC×Unit)(fs:List OM)(a12:Zy)(n:Nat)(h0:a0<a1.length)(hv:VR n a2)(hs:VS n fs.length (Sc a12)):
 W (vH a0 a1 a2 i u m a6 a7 a8 a9 a10 fs a12) (ST (fun _=>True) fun r=>∃a1',r=(a1',a2,i,u,m,a6,a7,a8,a9,a10,fs,a12)∧a1'.length=a1.length):=by
 unfold vH
 generalize hL:List.set (List.set a1 _ _) _ _=L
 have hL':L.length=a1.length:=by grind
 clear hL
 rw[aG]
 dsimp only
 split
 ·refine bL.2 (ph (m:=some a2) hv ⟨_,rfl,trivial⟩ fun x hx0 hx1=>⟨_,rfl,?_⟩)
  rw[iG]
  generalize hM:List.set _ _ _=M
  have hg:(List.getD M a0 (Ty.aD aV)).2.1.2.2.1=x:=by grind
  have hM':M.length=a1.length:=by grind
  clear hM
  dsimp only
  obtain⟨q1,q2,q3⟩:=hs.at' hx0 hx1
  rw[hg,aA hx0,aA q1,aA q2,aA q3]
  refine mr _ ⟨_,rfl,trivial⟩ fun y=>⟨_,rfl,_,rfl,?_⟩<;>grind
 ·exact⟨_,rfl,_,rfl,hL'⟩
theorem Ws(a0:Nat)(a1:ZB)(a2:Zq)(i u m:OM)(a6:Zo)(a7:Nat)(a8:Zi)(a9:Int)(a10:ZC×Unit)(fs:List OM)(a12:Zy)(n:Nat)(h0:a0<a1.length)(hv:VR n a2)(hs:VS n fs.length (Sc a12)):
 W (uN a0 a1 a2 i u m a6 a7 a8 a9 a10 fs a12) (ST (fun _=>True) fun r=>∃a1',r=(a1',a2,i,u,m,a6,a7,a8,a9,a10,fs,a12)∧a1'.length=a1.length):=by
 unfold uN
 generalize hL:List.set (List.set a1 _ _) _ _=L
 have hL':L.length=a1.length:=by grind
 clear hL
 rw[aG]
 dsimp only
 split
 ·refine bL.2 (ph (m:=some a2) hv ⟨_,rfl,trivial⟩ fun x hx0 hx1=>⟨_,rfl,?_⟩)
  rw[iG]
  generalize hM:List.set _ _ _=M
  have hg:(List.getD M a0 (Ty.aD aV)).2.2.1.2.2.1=x:=by grind
  have hM':M.length=a1.length:=by grind
  clear hM
  dsimp only
  obtain⟨q1,q2,q3⟩:=hs.at' hx0 hx1
  rw[hg,aA hx0,aA q1,aA q2,aA q3]
  refine mr _ ⟨_,rfl,trivial⟩ fun y=>⟨_,rfl,_,rfl,?_⟩<;>grind
 ·exact⟨_,rfl,_,rfl,hL'⟩
theorem Wt(a0:Nat)(a1:ZC)(a2:Zq)(i u m:OM)(a6:Zo)(a7:Nat)(a8:Zi)(a9:Int)(a10:Unit)(fs:List OM)(a12:Zy)(a13:ZB)(n:Nat)(h0:a0<a1.length)(hv:VR n a2)(hs:VS n fs.length (Sc a12)):
 W (uO a0 a1 a2 i u m a6 a7 a8 a9 a10 fs a12 a13) (ST (fun _=>True) fun r=>∃a1',r=(a1',a2,i,u,m,a6,a7,a8,a9,a10,fs,a12,a13)∧a1'.length=a1.length):=by
 unfold uO
 generalize hL:List.set (List.set a1 _ _) _ _=L
 have hL':L.length=a1.length:=by grind
 clear hL
 rw[aG]
 dsimp only
 split
 ·refine bL.2 (ph (m:=some a2) hv ⟨_,rfl,trivial⟩ fun x hx0 hx1=>⟨_,rfl,?_⟩)
  rw[iG]
  generalize hM:List.set _ _ _=M
  have hg:(List.getD M a0 (Ty.aD bu)).2.2.1.2.2.1=x:=by grind
  have hM':M.length=a1.length:=by grind
  clear hM
  dsimp only
  obtain⟨q1,q2,q3⟩:=hs.at' hx0 hx1
  rw[hg,aA hx0,aA q1,aA q2,aA q3]
  refine mr _ ⟨_,rfl,trivial⟩ fun y=>⟨_,rfl,_,rfl,?_⟩<;>grind
 ·exact⟨_,rfl,_,rfl,hL'⟩
def NQ(x:dt):Prop:=x.2.2.1.length*96≤aH∧x.2.2.2.1.length*120≤aH∧x.2.2.2.2.1.length*80≤aH
theorem VS.aiM{n:Nat}{s:Ze}(h:VS n K s)(y:Int):VS n K (s.set n y):=by
 refine⟨by rw[jj];exact h.1,fun j hj hn=>?_⟩
 rw[jj] at hj
 rw[List.getElem_set_ne (by omega)]
 exact h.2 j hj hn
theorem VS.push{n:Nat}{s:Ze}(h:VS n K s)(hn:n<s.length){y:Int}(h0:0≤y)(h1:y<(K:Int)):VS (n+1) K (s.set n y):=by
 refine⟨by grind,fun j hj hjn=>?_⟩
 rw[jj] at hj
 by_cases e:j=n
 ·grind
 ·rw[List.getElem_set_ne (by omega)]
  exact h.2 j hj (by omega)
theorem VR.push{n:Nat}{M:Zq}(h:VR n M)(k:Zi):VR (n+1) (aZ .str k (n:Int) M):=fun p hp=>by
 rcases fq (kt:=.str) hp with rfl|hp
 ·grind
 ·have:=h p hp
  grind
theorem SK(l:Zy)(i:Nat)(v:B1):Sc (l.set i v)=(Sc l).set i v.2.2.1:=List.map_set ..
theorem NR(i u m:OM)(l:Zo)(k:Nat)(a:dt)(fs:List OM)(hb:NQ a)(hm:VR fs.length (aX m)):W (uP i u m l k a fs) (ST (fun _=>True) fun r=>∃x1 x2 x3 x4 x5 x6,r=(i,u,m,l,k,x1,x2,x3,fs,x4,x5,x6)):=by
 have hB:=hB
 unfold uP
 refine ph hm ⟨_,rfl,trivial⟩ fun y1 y0 yK=>?_
 have e1:BZ a.2.2.1=some a.2.2.1:=iH _ _ hb.1
 rw[e1,aM]
 have l1:a.2.2.1.length≤aH:=by have:=hb.1;omega
 have l2:a.2.2.2.1.length≤aH:=by have:=hb.2.1;omega
 have l3:a.2.2.2.2.1.length≤aH:=by have:=hb.2.2;omega
 refine bL.2 (W.ct (bX (L:=vW) rfl (CT (fun d=>∃s V,d=(i,u,m,l,k,a.1,y1,a.2.2.2,fs,s,V)∧s.length=a.2.2.1.length∧VR s.length V∧VS s.length fs.length (Sc s)) fun r=>r= .inl ((),())) a.2.2.1.length (fun c(s:Zy×Zq)=>((a.2.2.1.length:Int),(c:Int),i,u,m,l,k,a.1,y1,a.2.2.2,fs,s.1,s.2)) (fun c s=>s.1.length=a.2.2.1.length∧s.2.length≤c∧VR c s.2∧VS c fs.length (Sc s.1)) ?step ?stop _ 0 (a.2.2.1,[]) (by omega) (by omega) ⟨rfl,dP _,fun p hp=>(by cases hp),gY _,fun j hj hj0=>absurd hj0 (Nat.not_lt_zero _)⟩) (fun d ⟨s,V,h,hsl,hVR,hVS⟩=>?_) fun r h=>?_)
 case step=>
  rintro rec c ⟨s,V⟩ hc ⟨hsl,hVl,hVR,hVS⟩ kk
  dsimp only at hsl hVl hVR hVS ⊢
  have hw:=nY c (by omega)
  rw[cz (by omega),dV c,aA (show(c:Int)<(s.length:Int) by omega)]
  refine bL.2 (ph hm ⟨_,rfl,rfl⟩ fun x x0 xK=>⟨_,rfl,?_⟩)
  rw[iG]
  generalize hL:List.set _ _ _=L
  have hS:Sc L=(Sc s).set c x:=by rw[←hL,SK,jF]
  have hLl:L.length=a.2.2.1.length:=by grind
  clear hL
  dsimp only
  refine lC.2 ((Wq (Int.toNat (c:Int)) L V i u m l k a.1 y1 a.2.2.2 fs c (by grind) hVR (by rw[hS];exact hVS.aiM x)).st (fun _ _=>⟨_,rfl,rfl⟩) fun r ⟨L',hr,hL'⟩=>?_)
  subst hr
  dsimp only
  rw[aA (show V.length+1≤aH by omega)]
  rw[hw]
  refine kk (L',aZ .str (List.getD L' (Int.toNat (c:Int)) (Ty.aD aQ)).1 (c:Int) V) ⟨?_,dh (dy (kt:=.str)) (by omega),VR.push (n:=c) hVR _,?_⟩
  ·have:=congrArg List.length hL'
   grind [Ce]
  ·show VS (c+1) fs.length (Sc L')
   rw[hL',hS]
   exact hVS.push (by rw[Ce];omega) x0 xK
 case stop=>
  rintro rec ⟨s,V⟩ ⟨hsl,hVl,hVR,hVS⟩
  dsimp only at hsl hVl hVR hVS ⊢
  rw[aC (by grind)]
  exact⟨_,rfl,s,V,rfl,hsl,hsl▸hVR,hsl▸hVS⟩
 ·subst h
  dsimp only
  have e2:B0 a.2.2.2.1=some a.2.2.2.1:=iH _ _ hb.2.1
  rw[e2,aM]
  refine bL.2 (W.ct (bX (L:=tE) rfl (CT (fun d=>∃w,d=(i,u,m,l,k,a.1,y1,a.2.2.2.2,fs,s,V,w)) fun r=>r= .inl ((),())) a.2.2.2.1.length (fun c(w:ZB)=>((a.2.2.2.1.length:Int),(c:Int),i,u,m,l,k,a.1,y1,a.2.2.2.2,fs,s,V,w)) (fun _ w=>w.length=a.2.2.2.1.length) ?step ?stop _ 0 a.2.2.2.1 (by omega) (by omega) rfl) (fun d ⟨w,h⟩=>?_) fun r h=>?_)
  case step=>
   intro rec c w hc hI kk
   dsimp only
   have hw:=nY c (by omega)
   rw[cz (by omega),dV c,aA (show(c:Int)<(w.length:Int) by omega)]
   refine lC.2 ((Wr (Int.toNat (c:Int)) w V i u m l k a.1 y1 a.2.2.2.2 fs s s.length (by grind) hVR hVS).st (fun _ _=>⟨_,rfl,rfl⟩) fun r ⟨w',hr,hw'⟩=>?_)
   subst hr
   dsimp only
   rw[dV c,aA (show(c:Int)<(w'.length:Int) by omega)]
   refine lC.2 ((Ws (Int.toNat (c:Int)) w' V i u m l k a.1 y1 a.2.2.2.2 fs s s.length (by rw[jF];omega) hVR hVS).st (fun _ _=>⟨_,rfl,rfl⟩) fun r ⟨w2,hr,hw2⟩=>?_)<;>grind
  case stop=>
   intro rec w hI
   dsimp only
   rw[aC (by grind)]
   exact⟨_,rfl,w,rfl⟩
  ·subst h
   dsimp only
   have e3:Au a.2.2.2.2.1=some a.2.2.2.2.1:=iH _ _ hb.2.2
   rw[e3,aM]
   refine bL.2 (W.ct (bX (L:=tF) rfl (CT (fun d=>∃z,d=(i,u,m,l,k,a.1,y1,(),fs,s,w,z)) fun r=>r= .inl ((),())) a.2.2.2.2.1.length (fun c(z:ZC)=>((a.2.2.2.2.1.length:Int),(c:Int),i,u,m,l,k,a.1,y1,a.2.2.2.2.2,fs,s,V,w,z)) (fun _ z=>z.length=a.2.2.2.2.1.length) ?step ?stop _ 0 a.2.2.2.2.1 (by omega) (by omega) rfl) (fun d ⟨z,h⟩=>?_) fun r h=>?_)
   case step=>
    intro rec c z hc hI kk
    dsimp only
    have hz:(c:Int)<(z.length:Int):=by omega
    have hw:=nY c (by omega)
    rw[cz (by omega),aA y0,aA yK,dV c,aA hz]
    refine mr _ ⟨_,rfl,rfl⟩ fun x=>?_
    rw[dV c,aA hz]
    generalize hZ:List.set z _ _=Z
    have hZl:Z.length=a.2.2.2.2.1.length:=by grind
    clear hZ
    rw[dV c,aA (show(c:Int)<(Z.length:Int) by omega)]
    refine lC.2 ((Wt (Int.toNat (c:Int)) Z V i u m l k a.1 y1 a.2.2.2.2.2 fs s w s.length (by rw[jF];omega) hVR hVS).st (fun _ _=>⟨_,rfl,rfl⟩) fun r ⟨w2,hr,hw2⟩=>?_)<;>grind
   case stop=>
    intro rec z hI
    dsimp only
    rw[aC (by grind)]
    exact⟨_,rfl,z,rfl⟩
   ·subst h
    exact⟨_,rfl,_,_,_,_,_,_,rfl⟩
   ·subst h;trivial
  ·subst h;trivial
 ·subst h;trivial
theorem Et(i u m:OM)(l:ZJ)(k:Nat)(a:th)(fs:List OM)(hb:a.2.2.2.2.1.length*56≤aH)(hm:VR fs.length (aX m)):W (uQ i u m l k a fs) (ST (fun _=>True) fun r=>∃x1 x2 x3 x4 x5 x6,r=(i,u,m,l,k,x1,x2,x3,x4,x5,fs,x6)):=by
 have hB:=hB
 unfold uQ
 refine ph hm ⟨_,rfl,trivial⟩ fun y1 y0 yK=>ph hm ⟨_,rfl,trivial⟩ fun y2 z0 zK=>?_
 have e1:Av a.2.2.2.2.1=some a.2.2.2.2.1:=iH _ _ hb
 rw[e1,aM]
 refine bL.2 (W.ct (bX (L:=vX) rfl (CT (fun d=>∃s,d=(i,u,m,l,k,a.1,a.2.1,y1,y2,a.2.2.2.2.2,fs,s)) fun r=>r= .inl ((),())) a.2.2.2.2.1.length (fun c(s:Zw)=>((a.2.2.2.2.1.length:Int),(c:Int),i,u,m,l,k,a.1,a.2.1,y1,y2,a.2.2.2.2.2,fs,s)) (fun _ s=>s.length=a.2.2.2.2.1.length) ?step ?stop _ 0 a.2.2.2.2.1 (by omega) (by omega) rfl) (fun d ⟨w,h⟩=>?_) fun r h=>?_)
 case step=>
  intro rec c s hc hI kk
  dsimp only
  have hw:=nY c (by omega)
  rw[cz (by omega),dV c,aA (show(c:Int)<(s.length:Int) by omega),aA y0,aA yK]
  refine mr _ ?_ fun x=>?_
  ·rw[aA z0,aA zK];exact⟨_,rfl,rfl⟩
  ·rw[aA z0,aA zK]
   refine mr _ ⟨_,rfl,rfl⟩ fun y=>?_<;>grind
 case stop=>
  intro rec s hI
  dsimp only
  rw[aC (by grind)]
  exact⟨_,rfl,s,rfl⟩
 ·subst h
  exact⟨_,rfl,_,_,_,_,_,_,rfl⟩
 ·subst h;trivial
theorem Eu(i u m:OM)(l:ZE)(k:Nat)(a:oP)(fs:List OM)(hb:a.2.1.length*48≤aH)(hm:VR fs.length (aX m)):W (uR i u m l k a fs) (ST (fun _=>True) fun r=>∃x1 x2 x3,r=(i,u,m,l,k,x1,x2,fs,x3)):=by
 have hB:=hB
 unfold uR
 have e1:Aw a.2.1=some a.2.1:=iH _ _ hb
 rw[e1,aM]
 refine bL.2 (W.ct (bX (L:=vY) rfl (CT (fun d=>∃s,d=(i,u,m,l,k,a.1,a.2.2,fs,s)) fun r=>r= .inl ((),())) a.2.1.length (fun c(s:List pZ)=>((a.2.1.length:Int),(c:Int),i,u,m,l,k,a.1,a.2.2,fs,s)) (fun _ s=>s.length=a.2.1.length) ?step ?stop _ 0 a.2.1 (by omega) (by omega) rfl) (fun d ⟨w,h⟩=>?_) fun r h=>?_)
 case step=>
  intro rec c s hc hI kk
  dsimp only
  have hw:=nY c (by omega)
  rw[cz (by omega),dV c,aA (show(c:Int)<(s.length:Int) by omega)]
  refine bL.2 (ph hm ⟨_,rfl,rfl⟩ fun x x0 xK=>⟨_,rfl,?_⟩)
  rw[iG]
  generalize hM:List.set _ _ _=M
  have hg:(List.getD M (Int.toNat (c:Int)) (Ty.aD fe)).2.2.1=x:=by grind
  have hM':M.length=a.2.1.length:=by grind
  clear hM
  dsimp only
  rw[hg,aA x0,aA xK]
  refine mr _ ⟨_,rfl,rfl⟩ fun y=>?_<;>grind
 case stop=>
  intro rec s hI
  dsimp only
  rw[aC (by grind)]
  exact⟨_,rfl,s,rfl⟩
 ·subst h
  exact⟨_,rfl,_,_,_,rfl⟩
 ·subst h;trivial
structure BS(s:cu):Prop where
 oM:s.1.length*16≤aH
 nM:s.2.1.length*56≤aH
 dq:s.2.2.1.length*96≤aH
 rules:s.2.2.2.1.length*96≤aH
 i6:s.2.2.2.2.1.length*72≤aH
 fp:s.2.2.2.2.2.1.length*48≤aH
 sch:∀x∈s.2.2.1,Wp x
 rl:∀x∈s.2.2.2.1,NQ x
 cv:∀x∈s.2.2.2.2.1,x.2.2.2.2.1.length*56≤aH
 pu:∀x∈s.2.2.2.2.2.1,x.2.1.length*48≤aH
def jX{α:Type}(P:α→Prop)(c:Nat)(l:List α):Prop:=∀j(h:j<l.length),c≤j→P l[j]
theorem jX.of{P:α→Prop}{l:List α}(h:∀x∈l,P x):jX P 0 l:=fun _ hj _=>h _ (eT hj)
theorem jX.next{P:α→Prop}{c:Nat}{l:List α}(h:jX P c l)(v:α):jX P (c+1) (l.set (Int.toNat (c:Int)) v):=fun j hj hc=>by
 have hj':j<l.length:=by grind
 rw[List.getElem_set_ne (by grind)]
 exact h j hj' (by omega)
theorem jX.here{t:Ty}{P:t.den→Prop}{c:Nat}{l:List t.den}(h:jX P c l)(hc:c<l.length):P (nth t l (c:Int)):=by
 rw[cK (t:=t) hc]
 exact h c hc (dP _)
theorem Ev(s:cu)(hs:SS s)(hb:BS s):W (f127 s) fun _=>True:=by
 have hB:=hB
 obtain⟨tw,i,u,m,fs,e,hi,hu,hm,hl,hf⟩:=Kj s hs hb.dq
 unfold f127
 rw[e,aM]
 dsimp only
 split
 ·exact⟨_,rfl,trivial⟩
 ·have e1:BP s.1=some s.1:=iH _ _ hb.oM
  have e2:BQ s.2.1=some s.2.1:=iH _ _ hb.nM
  have e3:BR s.2.2.1=some s.2.2.1:=iH _ _ hb.dq
  have e4:BT s.2.2.2.1=some s.2.2.2.1:=iH _ _ hb.rules
  have e5:BU s.2.2.2.2.1=some s.2.2.2.2.1:=iH _ _ hb.i6
  have e6:BV s.2.2.2.2.2.1=some s.2.2.2.2.2.1:=iH _ _ hb.fp
  rw[e1,aM,e2,aM,e3,aM,e4,aM,e5,aM,e6,aM]
  have k3:=hs.dq
  have k4:=hs.rules
  have k5:=hs.i6
  have k6:=hs.fp
  have p3:=jX.of hb.sch
  have p4:=jX.of hb.rl
  have p5:=jX.of hb.cv
  have p6:=jX.of hb.pu
  have qu:=Kk i u m s.2.1 fs hs.nM hu
  rw[←hl] at hm
  generalize s.1=v1 at*
  generalize s.2.1=v2 at*
  generalize s.2.2.1=v3 at*
  generalize s.2.2.2.1=v4 at*
  generalize s.2.2.2.2.1=v5 at*
  generalize s.2.2.2.2.2.1=v6 at*
  refine lC.2 (qu.st (fun _ _=>⟨_,rfl,trivial⟩) fun r ⟨us,hr⟩=>?_)
  subst hr
  dsimp only
  refine bL.2 (W.ct (bX (L:=HM) rfl (CT (fun d=>∃p,d=((0:Int),i,u,m,v1,us,p,v4,v5,v6,fs)) fun _=>True) v3.length (fun c(p:ZG)=>((v3.length:Int),(c:Int),0,i,u,m,v1,us,p,v4,v5,v6,fs)) (fun c p=>p.length=v3.length∧jX Wp c p) ?step ?stop _ 0 v3 (by omega) (by omega) ⟨rfl,p3⟩) (fun d ⟨w3,h⟩=>?_) fun _ _=>trivial)
  case step=>
   rintro rec c p hc ⟨hp,hT⟩ kk
   dsimp only
   have hcp:c<p.length:=by omega
   have hw:=nY c (by omega)
   rw[cz (by omega),dV c,aA (show(c:Int)<(p.length:Int) by omega),dV c,aA rfl,dV c,aA (show(c:Int)<(fs.length:Int) by omega)]
   refine lC.2 ((G5 _ i u m p _ _ fs (hT.here (t:=bF) hcp)).st (fun _ _=>⟨_,rfl,trivial⟩) fun r ⟨x1,x2,x3,x4,x5,x6,x7,hr⟩=>?_)
   subst hr
   rw[hw]
   exact kk _ ⟨by grind,hT.next _⟩
  case stop=>
   rintro rec p ⟨hp,hT⟩
   dsimp only
   rw[aC (by grind)]
   exact⟨_,rfl,p,rfl⟩
  subst h
  dsimp only
  refine bL.2 (W.ct (bX (L:=C5) rfl (CT (fun d=>∃p,d=((0:Int),i,u,m,v1,us,w3,p,v5,v6,fs)) fun _=>True) v4.length (fun c(p:Zo)=>((v4.length:Int),(c:Int),0,i,u,m,v1,us,w3,p,v5,v6,fs)) (fun c p=>p.length=v4.length∧jX NQ c p) ?step ?stop _ 0 v4 (by omega) (by omega) ⟨rfl,p4⟩) (fun d ⟨w4,h⟩=>?_) fun _ _=>trivial)
  case step=>
   rintro rec c p hc ⟨hp,hT⟩ kk
   dsimp only
   have hcp:c<p.length:=by omega
   have hw:=nY c (by omega)
   rw[cz (by omega),dV c,aA (show(c:Int)<(p.length:Int) by omega),dV c,aA rfl]
   refine lC.2 ((NR i u m p _ _ fs (hT.here (t:=bG) hcp) hm).st (fun _ _=>⟨_,rfl,trivial⟩) fun r ⟨x1,x2,x3,x4,x5,x6,hr⟩=>?_)
   subst hr
   rw[hw]
   exact kk _ ⟨by grind,hT.next _⟩
  case stop=>
   rintro rec p ⟨hp,hT⟩
   dsimp only
   rw[aC (by grind)]
   exact⟨_,rfl,p,rfl⟩
  subst h
  dsimp only
  refine bL.2 (W.ct (bX (L:=C6) rfl (CT (fun d=>∃p,d=((0:Int),i,u,m,v1,us,w3,w4,p,v6,fs)) fun _=>True) v5.length (fun c(p:ZJ)=>((v5.length:Int),(c:Int),0,i,u,m,v1,us,w3,w4,p,v6,fs)) (fun c p=>p.length=v5.length∧jX (fun x:th=>x.2.2.2.2.1.length*56≤aH) c p) ?step ?stop _ 0 v5 (by omega) (by omega) ⟨rfl,p5⟩) (fun d ⟨w5,h⟩=>?_) fun _ _=>trivial)
  case step=>
   rintro rec c p hc ⟨hp,hT⟩ kk
   dsimp only
   have hcp:c<p.length:=by omega
   have hw:=nY c (by omega)
   rw[cz (by omega),dV c,aA (show(c:Int)<(p.length:Int) by omega),dV c,aA rfl]
   refine lC.2 ((Et i u m p _ _ fs (hT.here (t:=gA) hcp) hm).st (fun _ _=>⟨_,rfl,trivial⟩) fun r ⟨x1,x2,x3,x4,x5,x6,hr⟩=>?_)
   subst hr
   rw[hw]
   exact kk _ ⟨by grind,hT.next _⟩
  case stop=>
   rintro rec p ⟨hp,hT⟩
   dsimp only
   rw[aC (by grind)]
   exact⟨_,rfl,p,rfl⟩
  subst h
  dsimp only
  refine bL.2 (W.ct (bX (L:=C7) rfl (CT (fun _=>True) fun _=>True) v6.length (fun c(p:ZE)=>((v6.length:Int),(c:Int),0,i,u,m,v1,us,w3,w4,w5,p,fs)) (fun c p=>p.length=v6.length∧jX (fun x:oP=>x.2.1.length*48≤aH) c p) ?step ?stop _ 0 v6 (by omega) (by omega) ⟨rfl,p6⟩) (fun d h=>?_) fun _ _=>trivial)
  case step=>
   rintro rec c p hc ⟨hp,hT⟩ kk
   dsimp only
   have hcp:c<p.length:=by omega
   have hw:=nY c (by omega)
   rw[cz (by omega),dV c,aA (show(c:Int)<(p.length:Int) by omega),dV c,aA rfl]
   refine lC.2 ((Eu i u m p _ _ fs (hT.here (t:=dL) hcp) hm).st (fun _ _=>⟨_,rfl,trivial⟩) fun r ⟨x1,x2,x3,hr⟩=>?_)
   subst hr
   rw[hw]
   exact kk _ ⟨by grind,hT.next _⟩
  case stop=>
   rintro rec p ⟨hp,hT⟩
   dsimp only
   rw[aC (by grind)]
   exact⟨_,rfl,trivial⟩
  exact⟨_,rfl,trivial⟩
theorem Cf(s:cu)(hs:SS s)(hb:BS s):∃r,f99 s=some r:=by
 obtain⟨⟨a,b⟩,e,_⟩:=Ev s hs hb
 unfold f99
 rw[e,aM]
 dsimp only
 obtain⟨q,hq⟩:=Er a s hs
 rw[hq,aM]
 repeat' (first|exact⟨_,rfl⟩|split)
structure SA(s:cu):Prop where
 ss:SS s
 bs:BS s
 sw:SW s
structure CG(s:cu)(l:Ze):Prop where
 tg:TG s
 rk:xR s l
 sw:SW s
 od:f104 s=some (l,true,0)
theorem NS(s:cu)(hs:SA s):∃r,f66 s=some r∧(r.1=0→r.2.1=s∧CG s r.2.2.1):=by
 have no:∀(x:Int)(y:Cs),(!decide (x=(0:Int)))=true→∃r,some (x,y)=some r∧(r.1=0→r.2.1=s∧CG s r.2.2.1):=fun x y hx=>⟨_,rfl,fun h=>by
  grind⟩
 unfold f66
 obtain⟨r1,e1⟩:=Cf s hs.ss hs.bs
 obtain⟨r2,e2,_⟩:=Ae s hs.sw
 obtain⟨r3,e3⟩:=xX s hs.ss
 obtain⟨r4,e4,m4⟩:=G0 s hs.sw
 obtain⟨r5,e5⟩:=G2 s hs.sw.nb hs.ss
 rw[e1,aM]
 by_cases h1:(!decide (r1=(0:Int)))=true
 ·rw[aA h1];exact no _ _ h1
 ·rw[aC h1,e2,aM]
  by_cases h2:(!decide (r2=(0:Int)))=true
  ·rw[aA h2];exact no _ _ h2
  ·rw[aC h2,e3,aM]
   by_cases h3:(!decide (r3=(0:Int)))=true
   ·rw[aA h3];exact no _ _ h3
   ·rw[aC h3,e4,aM]
    by_cases h4:(!decide (r4=(0:Int)))=true
    ·rw[aA h4];exact no _ _ h4
    ·rw[aC h4,e5,aM]
     by_cases h5:(!decide (r5=(0:Int)))=true
     ·rw[aA h5];exact no _ _ h5
     ·rw[aC h5,aG]
      obtain⟨hT,l,ho,hR⟩:=m4 (by grind)
      rw[ho,aM]
      exact⟨_,rfl,fun _=>⟨rfl,hT,hR,hs.sw,ho⟩⟩
end Go.Proofs.YtpmlkhjpbjnagaaGreat
