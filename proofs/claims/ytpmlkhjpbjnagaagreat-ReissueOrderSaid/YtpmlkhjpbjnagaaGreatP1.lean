/- part -/
import Derived.Test.YtpmlkhjpbjnagaaGreatUO
import Derived.Test.YtpmlkhjpbjnagaaGreatA5
import Derived.Test.YtpmlkhjpbjnagaaGreatF5
noncomputable section
namespace Go.Proofs.YtpmlkhjpbjnagaaGreat
open Go.Ax
theorem hB:aH=140737488355328:=rfl
theorem B4{l:Ze}{i j:Nat}(hi:i<l.length)(hj:j<l.length):lT (i:Int) (j:Int) l=some (decide (l[i]<l[j]),l):=by
 simp_all[lT,cP]
theorem swap_eq{l:Ze}{i j:Nat}(hi:i<l.length)(hj:j<l.length):∃l',lU (i:Int) (j:Int) l=some l'∧l'.Perm l:=by
 simp_all[List.set_set_perm,lU,cP]
theorem upL:∀(n c:Nat)(d:Ze),c<n→c<d.length→d.length≤aH→W (pW n ((c:Int),d)) (CT (fun d'=>d'.Perm d) fun _=>False):=by
 intro n
 induction n with
 |zero=>grind
 |
  succ n ih=>
  intro c d hn hc hb
  unfold pW at ih ⊢
  rw[aN]
  generalize aL _ n=rec at ih ⊢
  have hB:=hB
  dsimp only
  cases c with
  |
   zero=>
   rw[aA (by decide)]
   exact px.2 (iD.2 (List.Perm.refl _))
  |
   succ c=>
   have e1:bp (((c+1:Nat):Int) -1)=(c:Int):=by rw[ig (by omega) (by omega)];omega
   have e2:bp (Int.tdiv (c:Int) 2)=((c / 2:Nat):Int):=by
    have:Int.tdiv (c:Int) 2=((c / 2:Nat):Int):=rfl
    rw[this,ig (by omega) (by omega)]
   rw[e1,e2,aC (by grind),B4 hc (by omega),aM]
   dsimp only
   by_cases hl:d[c+1]<d[c / 2]
   ·rw[aC (by simp[hl])]
    obtain⟨l',e,p⟩:=swap_eq (l:=d) (i:=c / 2) (j:=c+1) (by omega) hc
    rw[e,aM]
    exact(ih (c / 2) l' (by omega) (by rw[p.length_eq];omega) (by rw[p.length_eq];exact hb)).ct (fun _ h=>h.trans p) fun _ h=>h
   simp_all[px,iD]
theorem IN{a:Int}{l:Ze}(h:(l.length+1)*8≤aH):∃q,rK a l=some q∧q.Perm (a::l):=by
 have hB:=hB
 have e1:BD a l=some (l++[a]):=aA h
 have e2:rJ (l++[a])=some (((l++[a]).length:Int),l++[a]):=rfl
 have hl:(l++[a]).length=l.length+1:=by grind
 have e3:bp (((l++[a]).length:Int) -1)=(l.length:Int):=by grind [ig]
 obtain⟨o,ho,hp⟩:=upL iZ l.length (l++[a]) (wZ (by omega)) (by omega) (by omega)
 unfold rK
 rw[e1,aM,e2,aM]
 dsimp only
 rw[e3]
 unfold BC
 rw[ho]
 cases o with
 |brk d=>exact⟨d,rfl,(show d.Perm (l++[a]) from hp).trans (List.perm_append_singleton a l)⟩
 |ret r=>trivial
theorem Y5:∀(m:Nat)(q:Int)(o p:Nat)(r:Ze),o -p<m→p≤o→o≤r.length→r.length≤aH→
 W (pw m (q,(o:Int),(p:Int),r)) (CT (fun u=>u.2.2.Perm r) fun _=>False):=by
 intro m
 induction m with
 |zero=>grind
 |
  succ m ih=>
  intro q o p r hm hpo hor hb
  unfold pw at ih ⊢
  rw[aN]
  generalize aL _ m=rec at ih ⊢
  have hB:=hB
  dsimp only
  have e0:bp ((2:Int)*(p:Int))=((2*p:Nat):Int):=by rw[ig (by omega) (by omega)];omega
  have e1:bp (((2*p:Nat):Int)+1)=((2*p+1:Nat):Int):=by rw[ig (by omega) (by omega)];omega
  rw[e0,e1]
  by_cases h1:o≤2*p+1
  ·rw[aA (show decide ((o:Int)≤((2*p+1:Nat):Int))=true by grind),aM,aA rfl]
   exact px.2 (iD.2 (List.Perm.refl _))
  ·rw[aC (show¬decide ((o:Int)≤((2*p+1:Nat):Int))=true by grind),aM,aC (by grind),aF]
   dsimp only
   have e2:bp (((2*p+1:Nat):Int)+1)=((2*p+2:Nat):Int):=by rw[ig (by omega) (by omega)];omega
   rw[e2]
   have key:∀j:Nat,p<j→j<o→W ((lT (j:Int) (p:Int) r).bind fun⟨m',n⟩=>if !m' then(some (.brk (q,(p:Int),n))) else((lU (p:Int) (j:Int) n).bind fun y9=>rec (q,(o:Int),(j:Int),y9))) (CT (fun u:Int×Int×Ze=>u.2.2.Perm r) fun _:Bool×Ze=>False):=by
    intro j hj1 hj2
    rw[B4 (by omega) (by omega),aM]
    dsimp only
    split
    ·exact px.2 (iD.2 (List.Perm.refl _))
    ·obtain⟨l',e,pm⟩:=swap_eq (l:=r) (i:=p) (j:=j) (by omega) (by omega)
     rw[e,aM]
     exact(ih q o j l' (by omega) (by omega) (by rw[pm.length_eq];omega) (by rw[pm.length_eq];exact hb)).ct (fun _ h=>h.trans pm) fun _ h=>h
   by_cases h2:2*p+2<o
   ·rw[aA (show decide (((2*p+2:Nat):Int)<(o:Int))=true by grind),B4 (by omega) (by omega),aM]
    grind [aF]
   ·rw[aC (show¬decide (((2*p+2:Nat):Int)<(o:Int))=true by grind),aF]
    exact key _ (by omega) (by omega)
theorem VI{l:Ze}(hne:l≠[])(hb:l.length≤aH):∃x q,js l=some (x,q)∧(x::q).Perm l:=by
 have hB:=hB
 have hpos:0<l.length:=List.length_pos_iff.2 hne
 obtain⟨n,hn⟩:∃n,l.length=n+1:=⟨l.length -1,by omega⟩
 have e2:rJ l=some ((l.length:Int),l):=rfl
 have e3:bp ((l.length:Int) -1)=(n:Int):=by grind [ig]
 obtain⟨l',e4,p4⟩:=swap_eq (l:=l) (i:=0) (j:=n) (by omega) (by omega)
 have hl':l'.length=n+1:=by rw[p4.length_eq,hn]
 obtain⟨o,ho,hp⟩:=Y5 iZ 0 n 0 l' (wZ (by omega)) (by omega) (by omega) (by omega)
 cases o with
 |ret r=>trivial
 |
  brk d=>
  obtain⟨d1,d2,c⟩:=d
  have pc:c.Perm l':=hp
  have hc:c.length=n+1:=by rw[pc.length_eq,hl']
  have e5:uO 0 (n:Int) l'=some (decide (d1<d2),c):=by
   grind [uO,aF]
  have e6:uP c=some (c[n]'(by omega),c.take n):=by
   have h7:bp ((c.length:Int) -1)=(n:Int):=by grind
   have h8:(n:Int)<(c.length:Int):=by omega
   have h9:(n:Int)≤(c.length:Int):=by omega
   simp_all[uP,cP]
  refine⟨c[n]'(by omega),c.take n,?_,?_⟩
  ·grind [js]
  grind [kC,l7]
variable{α:Type}
theorem pa:∀{l:List α}{i:Nat}(h:i<l.length),(l[i]::l.eraseIdx i).Perm l
 |x::l,0,_=>List.Perm.refl _
 |
  x::l,i+1,h=>by
  have h':i<l.length:=by rw[gM] at h;omega
  exact(List.Perm.swap x l[i] _).trans ((pa h').cons x)
def nd(g:dN)(h:Int):Zu:=aX (aP (.int .i64) (.map (.int .i64) .bool) h (aX g.2.1))
def ks(g:dN)(h:Int):Ze:=(nd g h).map (·.1)
def kg(e:ZX)(k:Ze)(f:Int):ZX:=e.mapIdx fun j row=>if(j:Int)∈k then row++[f] else row
theorem oH(e:ZX)(k:Ze)(f:Int):(kg e k f).length=e.length:=by unfold kg;grind
theorem JR(e:ZX)(f:Int):kg e [] f=e:=by
 refine List.ext_getElem (oH e [] f) fun j h1 h2=>?_
 simp only[kg,List.getElem_mapIdx,List.not_mem_nil,dz]
theorem Ed{e:ZX}{k k':Ze}{f:Int}(h:∀x,x∈k↔x∈k'):kg e k f=kg e k' f:=by
 grind [kg]
theorem JS{e:ZX}{k:Ze}{f:Int}{x:Nat}(hx:x<e.length)(hk:(x:Int)∉k):kg (e.set x (e.getD x []++[f])) k f=kg e ((x:Int)::k) f:=by
 refine List.ext_getElem (by grind [oH]) fun j h1 h2=>?_
 have hj:j<e.length:=by rw[oH] at h2;exact h2
 simp only[kg,List.getElem_mapIdx,List.getElem_set,fb]
 grind
theorem Y6(f b c:Int)(d:dN):∀(n:Nat)(a:Zu)(e:ZX),a.length<n→(a.map (·.1)).Nodup→(∀x∈a.map (·.1),0≤x∧x<(e.length:Int))→(∀x:Nat,(x:Int)∈a.map (·.1)→((e.getD x []).length+1)*8≤aH)→
 ij n (f,b,c,d,e,a)=some (.brk (b,c,d,kg e (a.map (·.1)) f)):=by
 intro n
 induction n with
 |zero=>grind
 |
  succ n ih=>
  intro a e hn hd hr hs
  unfold ij at ih ⊢
  rw[aN]
  generalize aL _ n=rec at ih ⊢
  dsimp only
  cases hA:a with
  |
   nil=>
   simp_all[JR]
  |
   cons y l=>
   rw[←hA,aC (by grind)]
   refine qQ (by grind) fun i hi=>?_
   have p:=pa hi
   have pm:=p.map (·.1)
   have hd':((a[i]::a.eraseIdx i).map (·.1)).Nodup:=pm.nodup_iff.2 hd
   rw[dy,kG] at hd'
   have hmem:a[i].1∈a.map (·.1):=List.mem_map_of_mem (fU hi)
   obtain⟨h0,h1⟩:=hr _ hmem
   obtain⟨x,hx⟩:∃x:Nat,a[i].1=(x:Int):=⟨a[i].1.toNat,by omega⟩
   have hxl:x<e.length:=by omega
   rw[hx] at h0 h1 hd' hmem ⊢
   have hs1:=hs x hmem
   have hsz:(List.length (List.getD e x [])+List.length [f])*8≤aH:=hs1
   simp only[h0,h1,cj,jB,aA hsz]
   rw[ih]
   ·rw[JS hxl hd'.1]
    refine congrArg (fun z=>some (cJ.brk (b,c,d,z))) (Ed fun z=>?_)<;>grind
   ·grind [gM]
   ·grind
   ·grind
   ·intro z hz
    have hne:x≠z:=fun h=>hd'.1 (h▸hz)
    grind
structure GG(g:dN)(m:Nat):Prop where
 many:g.1=(m:Int)
 small:m≤1000000
 nodup:∀h,(ks g h).Nodup
 range:∀h x,x∈ks g h→0≤x∧x<(m:Int)
def us(g:dN)(m e:Nat):ZX:=(List.range m).map fun j:Nat=>((List.range e).filter fun h:Nat=>decide ((j:Int)∈ks g (h:Int))).map fun h:Nat=>(h:Int)
theorem xJ(g:dN)(m e:Nat):(us g m e).length=m:=by simp[us]
theorem R7(g:dN)(m e:Nat):kg (us g m e) (ks g (e:Int)) (e:Int)=us g m (e+1):=by
 refine List.ext_getElem (by rw[oH,xJ,xJ]) fun j h1 h2=>?_
 simp only[kg,us,List.getElem_mapIdx,List.getElem_map,List.getElem_range,List.range_succ,List.filter_append,fV,vT,List.filter_nil]
 grind
theorem R8(g:dN)(m:Nat):us g m 0=List.replicate m []:=by
 grind [List.ext_getElem,xJ,tB,us]
theorem VJ{g:dN}{m e x:Nat}:((us g m e).getD x []).length≤e:=by
 grind [us]
theorem Y7{g:dN}{m:Nat}(hg:GG g m):∀(n e:Nat),m -e<n→e≤m→ju n ((m:Int),(e:Int),g,us g m e)=some (.brk (us g m m)):=by
 intro n
 have hB:=hB
 have hsm:=hg.small
 induction n with
 |zero=>grind
 |
  succ n ih=>
  intro e hn he
  unfold ju at ih ⊢
  rw[aN]
  generalize aL _ n=rec at ih ⊢
  dsimp only
  by_cases h:e<m
  ·rw[aA (show decide ((e:Int)<(m:Int))=true by grind)]
   have key:=Y6 (e:Int) (m:Int) (e:Int) g ((nd g (e:Int)).length+1) (nd g (e:Int)) (us g m e) (by omega) (hg.nodup _) (fun x hx=>by rw[xJ];exact hg.range _ x hx) (fun x _=>by grind [VJ])
   unfold nd at key
   rw[key,aF]
   dsimp only
   rw[show bp ((e:Int)+1)=((e+1:Nat):Int) from bk (by omega),show kg (us g m e) ((aX (aP (.int .i64) (.map (.int .i64) .bool) (e:Int) (aX g.2.1))).map (·.1)) (e:Int)=us g m (e+1) from R7 g m e]
   grind
  grind
theorem Nk{g:dN}{m:Nat}(hg:GG g m):f202 g=some (us g m m):=by
 have hB:=hB
 have hsm:=hg.small
 unfold f202
 rw[hg.many,eA m,aA (mH _),aA (by omega),jB,←R8 g]
 have:=Y7 hg (m+1) 0 (by omega) (by omega)
 grind [aF]
theorem gx:∀(m:Nat)(l:Ze),l.Nodup→(∀x∈l,0≤x∧x<(m:Int))→l.length≤m:=by
 intro m
 induction m with
 |
  zero=>
  intro l _ h
  cases l with
  |nil=>grind
  |cons x l=>grind [cm]
 |
  succ m ih=>
  intro l hd h
  by_cases hm:(m:Int)∈l
  ·have h1:=ih (l.erase (m:Int)) (hd.erase _) fun x hx=>by
    grind
   grind
  grind
def GC(g:dN)(out:Ze)(h:Int):Nat:=((ks g h).filter fun x=>decide (x∉out)).length
theorem IP(g:dN)(h:Int):GC g [] h=(ks g h).length:=by simp[GC]
theorem VL{g:dN}{m:Nat}(hg:GG g m)(out:Ze)(h:Int):GC g out h≤m:=
 dh (tC _ _) (gx m _ (hg.nodup h) (hg.range h))
theorem GD:∀(l:Ze)(out:Ze)(x:Int),l.Nodup→x∉out→
 (l.filter fun z=>decide (z∉out)).length=(l.filter fun z=>decide (z∉out++[x])).length+(if x∈l then 1 else 0):=by
 intro l
 induction l with
 |nil=>grind
 |
  cons y l ih=>
  grind
variable{h:Int}{out:Ze}
theorem IQ{g:dN}{m:Nat}(hg:GG g m){x:Int}(hx:x∉out):GC g out h=GC g (out++[x]) h+if x∈ks g h then 1 else 0:=
 GD _ _ _ (hg.nodup h) hx
abbrev Yc(y:YC):ZK:=fun d=>gH y d.1 d.2.1 d.2.2.1 d.2.2.2.1 d.2.2.2.2.1
theorem Y8(y:YC)(x:Int)(acc:Ze)(h:(acc.length+1)*8≤aH):gH y x y 0 (y.gs 1) acc=some (true,y,0,y.gs 1,acc++[x]):=by
 simp_all[gH,gp]
structure L3(g:dN)(m a:Nat)(c e:Ze):Prop where
 len:c.length=m
 num:∀h<a,c[h]? =some ((ks g (h:Int)).length:Int)
 jf:e.Nodup
 mem:∀x,x∈e↔∃h:Nat,h<a∧x=(h:Int)∧(ks g (h:Int)).length=0
theorem Y9{g:dN}{m:Nat}(hg:GG g m)(U:ZX):∀(n a:Nat)(c e:Ze),m -a<n→a≤m→L3 g m a c e→
 ∃c' e',L3 g m m c' e'∧∀(y:YC)(k:Ze),ew y.l (Yc y) n (y.l,g,U,(m:Int),(a:Int),y,0,y.gs 1,k,c,e)=some (.brk (y.l,U,y,0,y.gs 1,k,c',e')):=by
 intro n
 have hB:=hB
 have hsm:=hg.small
 induction n with
 |zero=>grind
 |
  succ n ih=>
  intro a c e hn ha hL
  have hstep:∀y k,ew y.l (Yc y) (n+1) (y.l,g,U,(m:Int),(a:Int),y,0,y.gs 1,k,c,e)=_:=fun y k=>by unfold ew;rw[aN]
  by_cases h:a<m
  ·have hl:a<c.length:=by rw[hL.len];exact h
   have d1:decide ((a:Int)<(m:Int))=true:=by simp only[qp];omega
   have d2:((a:Int)<(c.length:Int))=True:=by simp only[eq_iff_iff,iff_true];omega
   have e0:(List.length (aX (aP (.int .i64) (.map (.int .i64) .bool) (a:Int) (aX g.2.1))):Int)=((ks g (a:Int)).length:Int):=by simp[ks,nd]
   generalize hc2:c.set a ((ks g (a:Int)).length:Int)=c2
   have hc2l:c2.length=m:=by rw[←hc2,ji,hL.len]
   have amp:nth (.int .i64) c2 (a:Int)=((ks g (a:Int)).length:Int):=by
    rw[cP (t:=.int .i64) (show a<c2.length by omega)]
    subst hc2
    exact List.getElem_set_self ..
   have d3:((a:Int)<(c2.length:Int))=True:=by simp only[eq_iff_iff,iff_true];omega
   have hnum:∀z<a+1,c2[z]? =some ((ks g (z:Int)).length:Int):=by
    intro z hz
    subst hc2
    by_cases hza:z=a
    ·subst hza
     rw[List.getElem?_set_self hl]
    ·rw[List.getElem?_set_ne (Ne.symm hza)]
     exact hL.num z (by omega)
   have hw:bp ((a:Int)+1)=((a+1:Nat):Int):=bk (by omega)
   by_cases hz:(ks g (a:Int)).length=0
   ·have hle:e.length≤m:=gx m e hL.jf fun x hx=>by
     obtain⟨h',h1,h2,_⟩:=(hL.mem x).1 hx
     omega
    obtain⟨e2,he2,p⟩:=IN (a:=(a:Int)) (l:=e) (by omega)
    have hna:(a:Int)∉e:=fun hm=>by
     obtain⟨h',h1,h2,_⟩:=(hL.mem _).1 hm
     omega
    obtain⟨c',e',hL',hf⟩:=ih (a+1) c2 e2 (by omega) (by omega) ⟨hc2l,hnum,p.nodup_iff.2 (List.nodup_cons.2 ⟨hna,hL.jf⟩),fun x=>by
     rw[p.mem_iff,fb,hL.mem]
     constructor
     ·rintro(rfl|⟨h',h1,h2,h3⟩)
      ·exact⟨a,by omega,rfl,hz⟩
      ·exact⟨h',by omega,h2,h3⟩
     ·rintro⟨h',h1,h2,h3⟩
      by_cases hh:h'=a
      ·subst hh;exact Or.inl h2
      ·exact Or.inr ⟨h',by omega,h2,h3⟩⟩
    refine⟨c',e',hL',fun y k=>?_⟩
    rw[hstep]
    have hf:=hf y k
    unfold ew at hf
    have d4:decide (((ks g (a:Int)).length:Int)=(0:Int))=true:=by rw[hz];rfl
    simp only[d1,dH,d2,e0,jB,hc2,d3,amp,d4,cj,he2,aM,hw]
    exact hf
   ·obtain⟨c',e',hL',hf⟩:=ih (a+1) c2 e (by omega) (by omega) ⟨hc2l,hnum,hL.jf,fun x=>by
     rw[hL.mem]
     constructor
     ·grind
     grind⟩
    refine⟨c',e',hL',fun y k=>?_⟩
    rw[hstep]
    have hf:=hf y k
    unfold ew at hf
    have d4:decide (((ks g (a:Int)).length:Int)=(0:Int))=false:=dE (by omega)
    simp only[d1,dH,d2,e0,jB,hc2,d3,amp,d4,cj,eK,dz,hw]
    exact hf
  grind
structure L13(m:Nat)(row:Ze)(op0:Nat→Nat)(q0:Ze)(a:Nat)(d e:Ze):Prop where
 len:d.length=m
 num:∀h<m,d[h]? =some ((op0 h:Int) -if(h:Int)∈row.take a then 1 else 0)
 jf:e.Nodup
 mem:∀x,x∈e↔x∈q0∨∃h:Nat,x=(h:Int)∧(h:Int)∈row.take a∧op0 h=1
theorem VM{g:dN}{m:Nat}(hg:GG g m)(U:ZX)(row:Ze)(op0:Nat→Nat)(q0:Ze)
 (hrd:row.Nodup) (hrr:∀x∈row,∃h:Nat,h<m∧x=(h:Int)∧1≤op0 h∧x∉q0) (hop:∀h,op0 h≤m) (hq:∀x∈q0,0≤x∧x<(m:Int)):
 ∀(n a:Nat)(d e:Ze),row.length -a<n→a≤row.length→L13 m row op0 q0 a d e→
 ∃d' e',L13 m row op0 q0 row.length d' e'∧∀(y:YC)(k:Ze),da y.l (Yc y) n (y.l,U,row,(row.length:Int),(a:Int),y,0,y.gs 1,d,k,e)=some (.brk (y.l,U,y,0,y.gs 1,d',k,e')):=by
 intro n
 have hB:=hB
 have hsm:=hg.small
 have hrl:row.length≤m:=gx m row hrd fun x hx=>by grind
 induction n with
 |zero=>grind
 |
  succ n ih=>
  intro a d e hn ha hL
  have hstep:∀y k,da y.l (Yc y) (n+1) (y.l,U,row,(row.length:Int),(a:Int),y,0,y.gs 1,d,k,e)=_:=fun y k=>by unfold da;rw[aN]
  by_cases h:a<row.length
  ·have d2:((a:Int)<(row.length:Int))=True:=by simp only[eq_iff_iff,iff_true];omega
   obtain⟨u,hu,hru,hu1,huq⟩:=hrr row[a] (fU h)
   have hn1:nth (.int .i64) row (a:Int)=(u:Int):=by rw[cP (t:=.int .i64) h,hru]
   have hul:u<d.length:=by rw[hL.len];exact hu
   have hnt:(u:Int)∉row.take a:=fun hm=>by
    have h1:=kC a row
    rw[←h1,mJ] at hrd
    have h2:(u:Int)∈row.drop a:=by rw[l7 h,hru];exact cm ..
    exact hrd.2.2 _ hm _ h2 rfl
   have hdu:nth (.int .i64) d (u:Int)=(op0 u:Int):=by
    rw[cP (t:=.int .i64) hul]
    have:=hL.num u hu
    rw[yG hul,aC hnt,Int.sub_zero] at this
    exact kH this
   have hw1:bp ((op0 u:Int) -1)=(op0 u:Int) -1:=ig (by omega) (by have:=hop u;omega)
   have d3:((u:Int)<(d.length:Int))=True:=by simp only[eq_iff_iff,iff_true];omega
   generalize hc2:d.set u ((op0 u:Int) -1)=d2'
   have hc2l:d2'.length=m:=by rw[←hc2,ji,hL.len]
   have d4:((u:Int)<(d2'.length:Int))=True:=by simp only[eq_iff_iff,iff_true];omega
   have amp:nth (.int .i64) d2' (u:Int)=(op0 u:Int) -1:=by
    rw[cP (t:=.int .i64) (show u<d2'.length by omega)]
    subst hc2
    exact List.getElem_set_self ..
   have htk:∀z:Int,z∈row.take (a+1)↔z∈row.take a∨z=(u:Int):=fun z=>by
    rw[List.take_succ_eq_append_getElem h,i7,mG,hru]
   have hnum:∀z<m,d2'[z]? =some ((op0 z:Int) -if(z:Int)∈row.take (a+1) then 1 else 0):=by
    intro z hz
    subst hc2
    by_cases hzu:z=u
    ·subst hzu
     rw[List.getElem?_set_self hul,aA ((htk _).2 (Or.inr rfl))]
    ·rw[List.getElem?_set_ne (Ne.symm hzu),hL.num z hz]
     have:((z:Int)∈row.take (a+1))=((z:Int)∈row.take a):=by
      rw[eq_iff_iff,htk]
      exact⟨fun h=>h.resolve_right (by omega),Or.inl⟩
     simp only[this]
   have hw:bp ((a:Int)+1)=((a+1:Nat):Int):=bk (by omega)
   by_cases hz:op0 u=1
   ·have hna:(u:Int)∉e:=fun hm=>by
     rcases(hL.mem _).1 hm with h1|⟨h',h1,h2,_⟩
     ·exact huq (hru▸h1)
     ·have:h'=u:=by omega
      subst this;exact hnt h2
    have hle:e.length≤m:=gx m e hL.jf fun x hx=>by
     rcases(hL.mem x).1 hx with h1|⟨h',h1,h2,_⟩
     ·exact hq x h1
     ·obtain⟨h'',h3,h4,_⟩:=hrr _ (List.mem_of_mem_take h2)
      omega
    obtain⟨e2,he2,p⟩:=IN (a:=(u:Int)) (l:=e) (by omega)
    obtain⟨d',e',hL',hf⟩:=ih (a+1) d2' e2 (by omega) (by omega) ⟨hc2l,hnum,p.nodup_iff.2 (List.nodup_cons.2 ⟨hna,hL.jf⟩),fun x=>by
     rw[p.mem_iff,fb,hL.mem]
     constructor
     ·rintro(rfl|h1|⟨h',h1,h2,h3⟩)
      ·exact Or.inr ⟨u,rfl,(htk _).2 (Or.inr rfl),hz⟩
      ·exact Or.inl h1
      ·exact Or.inr ⟨h',h1,(htk _).2 (Or.inl h2),h3⟩
     ·rintro(h1|⟨h',h1,h2,h3⟩)
      ·exact Or.inr (Or.inl h1)
      ·rcases(htk _).1 h2 with h2|h2
       ·exact Or.inr (Or.inr ⟨h',h1,h2,h3⟩)
       ·exact Or.inl (h1.trans h2)⟩
    refine⟨d',e',hL',fun y k=>?_⟩
    rw[hstep]
    have hf:=hf y k
    unfold da at hf
    have d5:decide ((op0 u:Int) -1=(0:Int))=true:=cQ (by omega)
    simp only[dH,d2,hn1,hdu,hw1,d3,jB,hc2,d4,amp,d5,cj,he2,aM,hw]
    exact hf
   ·obtain⟨d',e',hL',hf⟩:=ih (a+1) d2' e (by omega) (by omega) ⟨hc2l,hnum,hL.jf,fun x=>by
     rw[hL.mem]
     constructor
     ·rintro(h1|⟨h',h1,h2,h3⟩)
      ·exact Or.inl h1
      ·exact Or.inr ⟨h',h1,(htk _).2 (Or.inl h2),h3⟩
     ·rintro(h1|⟨h',h1,h2,h3⟩)
      ·exact Or.inl h1
      ·rcases(htk _).1 h2 with h2|h2
       ·exact Or.inr ⟨h',h1,h2,h3⟩
       ·have:h'=u:=by omega
        subst this;omega⟩
    refine⟨d',e',hL',fun y k=>?_⟩
    rw[hstep]
    have hf:=hf y k
    unfold da at hf
    have d5:decide ((op0 u:Int) -1=(0:Int))=false:=dE (by omega)
    simp only[dH,d2,hn1,hdu,hw1,d3,jB,hc2,d4,amp,d5,cj,eK,dz,hw]
    exact hf
  ·have:a=row.length:=by omega
   subst this
   grind
structure KI(g:dN)(m:Nat)(q out op:Ze):Prop where
 len:op.length=m
 num:∀h<m,op[h]? =some (GC g out (h:Int):Int)
 jf:(q++out).Nodup
 Ch:∀x∈q++out,0≤x∧x<(m:Int)
 zero:∀h:Nat,h<m→((h:Int)∈q++out↔GC g out (h:Int)=0)
 pre:∀i(hi:i<out.length),∀x∈ks g out[i],x∈out.take i
structure KO(g:dN)(m:Nat)(out:Ze):Prop where
 jf:out.Nodup
 Ch:∀x∈out,0≤x∧x<(m:Int)
 pre:∀i(hi:i<out.length),∀x∈ks g out[i],x∈out.take i
theorem VN{g:dN}{m x:Nat}(hx:x<m):nth (.slice 8 (.int .i64)) (us g m m) (x:Int)=((List.range m).filter fun h:Nat=>decide ((x:Int)∈ks g (h:Int))).map fun h:Nat=>(h:Int):=by
 grind [cP,us]
theorem Z0{g:dN}{m:Nat}(hg:GG g m):∀(n:Nat)(q out op:Ze),m -out.length<n→KI g m q out op→
 ∃out',KO g m out'∧∀y:YC,dR y.l (Yc y) n (y.l,us g m m,y,0,y.gs 1,op,q,out)=some (.brk (y,0,y.gs 1,out')):=by
 intro n
 have hB:=hB
 have hsm:=hg.small
 induction n with
 |zero=>grind
 |
  succ n ih=>
  intro q out op hn hK
  have hstep:∀y,dR y.l (Yc y) (n+1) (y.l,us g m m,y,0,y.gs 1,op,q,out)=_:=fun y=>by unfold dR;rw[aN]
  have hqn:q.Nodup:=(List.nodup_append.1 hK.jf).1
  have hon:out.Nodup:=(List.nodup_append.1 hK.jf).2.1
  have hdis:=(List.nodup_append.1 hK.jf).2.2
  have hor:∀x∈out,0≤x∧x<(m:Int):=fun x hx=>hK.Ch x (kE _ hx)
  by_cases hq:q= []
  ·subst hq
   refine⟨out,⟨hon,hor,hK.pre⟩,fun y=>?_⟩
   rw[hstep]
   have e1:f204 []=some (0:Int):=rfl
   simp only[e1,aM,show decide ((0:Int)<0)=false from rfl,eK,dz]
  ·have hql:q.length≤m:=gx m q hqn fun x hx=>hK.Ch x (jY _ hx)
   obtain⟨x0,q1,hpop,p⟩:=VI hq (by omega)
   have hxq:x0∈q:=p.mem_iff.1 (cm ..)
   obtain⟨x,hx,rfl⟩:∃x:Nat,x<m∧x0=(x:Int):=by
    have:=hK.Ch x0 (jY _ hxq)
    exact⟨x0.toNat,by omega,by omega⟩
   have hpn:=List.nodup_cons.1 (p.nodup_iff.2 hqn)
   have hxo:(x:Int)∉out:=fun h=>hdis _ hxq _ h rfl
   have hx0:GC g out (x:Int)=0:=(hK.zero x hx).1 (jY _ hxq)
   have hol:(out++[(x:Int)]).length≤m:=gx m _ (by
    rw[mJ]
    refine⟨hon,by simp,fun a ha b hb=>?_⟩
    rw[mG] at hb
    subst hb
    exact fun e=>hxo (e▸ha)) fun z hz=>by
    rcases List.mem_append.1 hz with h|h
    ·exact hor z h
    ·rw[mG] at h;omega
   rw[kj,kD] at hol
   generalize hrow:(((List.range m).filter fun h:Nat=>decide ((x:Int)∈ks g (h:Int))).map fun h:Nat=>(h:Int))=row
   have hrm:∀h:Nat,(h:Int)∈row↔h<m∧(x:Int)∈ks g (h:Int):=fun h=>by
    rw[←hrow,List.mem_map]
    constructor
    ·rintro⟨h',h1,h2⟩
     have:h'=h:=by omega
     subst this
     have:=List.mem_filter.1 h1
     exact⟨List.mem_range.1 this.1,of_decide_eq_true this.2⟩
    ·rintro⟨h1,h2⟩
     exact⟨h,List.mem_filter.2 ⟨List.mem_range.2 h1,cQ h2⟩,rfl⟩
   have hrn:row.Nodup:=by
    rw[←hrow]
    refine List.Pairwise.map _ (fun a b hab=>?_) (List.nodup_range.filter _)
    exact fun e=>hab (by omega)
   have hc1:∀h:Nat,(x:Int)∈ks g (h:Int)→1≤GC g out (h:Int):=fun h hm=>by
    rw[IQ hg hxo,aA hm];omega
   have hrr:∀z∈row,∃h:Nat,h<m∧z=(h:Int)∧1≤GC g out (h:Int)∧z∉q1:=fun z hz=>by
    obtain⟨h,h1,h2⟩:=List.mem_map.1 (hrow▸hz)
    subst h2
    have h3:=(hrm h).1 hz
    refine⟨h,h3.1,rfl,hc1 h h3.2,fun hm=>?_⟩
    have:=(hK.zero h h3.1).1 (jY _ (p.mem_iff.1 (dj _ hm)))
    have:=hc1 h h3.2
    omega
   obtain⟨d',e',hL,hf⟩:=VM hg (us g m m) row (fun h=>GC g out (h:Int)) q1 hrn hrr (fun h=>VL hg _ _) (fun z hz=>hK.Ch z (jY _ (p.mem_iff.1 (dj _ hz))))
    (row.length+1) 0 op q1 (by omega) (by omega) ⟨hK.len,fun h hh=>by rw[hK.num h hh];simp,hpn.2,fun z=>by simp⟩
   have hK':KI g m e' (out++[(x:Int)]) d':=by
    have hcnt:∀h:Nat,GC g out (h:Int)=GC g (out++[(x:Int)]) (h:Int)+if(x:Int)∈ks g (h:Int) then 1 else 0:=fun h=>IQ hg hxo
    have hmem:∀z,z∈e'↔z∈q1∨∃h:Nat,z=(h:Int)∧(h:Int)∈row∧GC g out (h:Int)=1:=fun z=>by
     have:=hL.mem z
     rw[List.take_length] at this
     exact this
    have hq1:∀z,z∈q1→z∈q∧z≠(x:Int):=fun z hz=>⟨p.mem_iff.1 (dj _ hz),fun e=>hpn.1 (e▸hz)⟩
    refine⟨hL.len,fun h hh=>?_,?_,fun z hz=>?_,fun h hh=>?_,fun i hi z hz=>?_⟩
    ·have:=hL.num h hh
     rw[List.take_length] at this
     rw[this]
     have h1:=hcnt h
     by_cases hxk:(x:Int)∈ks g (h:Int)
     ·rw[aA hxk] at h1
      rw[aA ((hrm h).2 ⟨hh,hxk⟩)]
      exact congrArg some (by omega)
     ·rw[aC hxk] at h1
      rw[aC (fun hm=>hxk ((hrm h).1 hm).2)]
      exact congrArg some (by omega)
    ·rw[mJ]
     refine⟨hL.jf,?_,fun a ha b hb=>?_⟩
     ·rw[mJ]
      refine⟨hon,by simp,fun a ha b hb=>?_⟩
      rw[mG] at hb
      subst hb
      exact fun e=>hxo (e▸ha)
     ·rintro rfl
      rcases(hmem a).1 ha with h1|⟨h,h1,h2,h3⟩
      ·rcases List.mem_append.1 hb with h4|h4
       ·exact hdis _ (hq1 a h1).1 _ h4 rfl
       ·exact(hq1 a h1).2 (List.mem_singleton.1 h4)
      ·subst h1
       have h4:(h:Int)∈q++out:=by
        rcases List.mem_append.1 hb with h5|h5
        ·exact kE _ h5
        ·rw[List.mem_singleton.1 h5];exact jY _ hxq
       have:=(hK.zero h ((hrm h).1 h2).1).1 h4
       omega
    ·rcases List.mem_append.1 hz with h1|h1
     ·rcases(hmem z).1 h1 with h2|⟨h,h2,h3,_⟩
      ·exact hK.Ch z (jY _ (hq1 z h2).1)
      ·have:=((hrm h).1 h3).1;omega
     ·rcases List.mem_append.1 h1 with h2|h2
      ·exact hor z h2
      ·rw[mG] at h2;omega
    ·have h1:=hcnt h
     have h2:=hK.zero h hh
     rw[i7,i7,mG,hmem]
     constructor
     ·rintro((h3|⟨h',h3,h4,h5⟩)|h3|h3)
      ·have:=h2.1 (jY _ (hq1 _ h3).1);omega
      ·have:h'=h:=by omega
       subst this
       rw[aA ((hrm _).1 h4).2] at h1;omega
      ·have:=h2.1 (kE _ h3);omega
      ·have:=h2.1 (jY _ (h3▸hxq));omega
     ·intro h3
      by_cases hz0:GC g out (h:Int)=0
      ·rcases List.mem_append.1 (h2.2 hz0) with h4|h4
       ·rcases List.mem_cons.1 (p.mem_iff.2 h4) with h5|h5
        ·exact Or.inr (Or.inr h5)
        ·exact Or.inl (Or.inl h5)
       ·exact Or.inr (Or.inl h4)
      ·by_cases hxk:(x:Int)∈ks g (h:Int)
       ·rw[aA hxk] at h1
        exact Or.inl (Or.inr ⟨h,rfl,(hrm h).2 ⟨hh,hxk⟩,by omega⟩)
       ·rw[aC hxk] at h1;omega
    ·by_cases hio:i<out.length
     ·rw[List.getElem_append_left hio] at hz
      rw[CV (by omega)]
      exact hK.pre i hio z hz
     ·have hi':i=out.length:=by rw[kj,kD] at hi;omega
      subst hi'
      rw[List.getElem_append_right (dO _)] at hz
      simp only[Nat.sub_self,List.getElem_singleton] at hz
      rw[CV (dO _),List.take_length]
      by_cases hzo:z∈out
      ·exact hzo
      ·have:z∈(ks g (x:Int)).filter fun w=>decide (w∉out):=List.mem_filter.2 ⟨hz,cQ hzo⟩
       have h9:((ks g (x:Int)).filter fun w=>decide (w∉out))= []:=List.length_eq_zero_iff.1 hx0
       rw[h9] at this
       exact absurd this List.not_mem_nil
   obtain⟨out',hO,hr⟩:=ih e' (out++[(x:Int)]) d' (by rw[kj,kD];omega) hK'
   refine⟨out',hO,fun y=>?_⟩
   rw[hstep]
   have hr:=hr y
   have hf:=hf y (out++[(x:Int)])
   unfold dR at hr
   have e1:f204 q=some (q.length:Int):=rfl
   have d1:decide ((0:Int)<(q.length:Int))=true:=cQ (by have:=List.length_pos_iff.2 hq;omega)
   have e2:Yc y ((x:Int),y,0,y.gs 1,out,())=some (true,y,0,y.gs 1,out++[(x:Int)]):=Y8 y (x:Int) out (by omega)
   have d2:((x:Int)<((us g m m).length:Int))=True:=by rw[xJ];simp only[eq_iff_iff,iff_true];omega
   simp only[e1,aM,d1,cj,hpop,e2,Bool.not_true,eK,dz,aF,dH,d2,VN hx,hrow,jB]
   have hf':da y.l (Yc y) (row.length+1) (y.l,us g m m,row,(row.length:Int),0,y,0,y.gs 1,op,out++[(x:Int)],q1)=some (.brk (y.l,us g m m,y,0,y.gs 1,d',out++[(x:Int)],e')):=hf
   rw[hf',aF]
   exact hr
theorem Z1{g:dN}{m:Nat}(hg:GG g m):∃out,KO g m out∧∀y:YC,gz y.l (Yc y) y.l g y 0 (y.gs 1) []=some (y,0,y.gs 1,out):=by
 have hB:=hB
 have hsm:=hg.small
 obtain⟨c',e',hL,h3⟩:=Y9 hg (us g m m) (m+1) 0 (List.replicate m (0:Int)) [] (by omega) (by omega) ⟨tB ..,fun h hh=>by omega,List.nodup_nil,fun x=>by simp⟩
 obtain⟨out,hO,h9⟩:=Z0 hg iZ e' [] c' (wZ (by grind)) ⟨hL.len,fun h hh=>by rw[hL.num h hh,IP],by rw[fT];exact hL.jf,fun x hx=>by
  rw[fT] at hx
  obtain⟨h,h1,h2,_⟩:=(hL.mem x).1 hx
  omega,fun h hh=>by
  rw[fT,hL.mem,IP]
  grind,fun i hi=>by grind⟩
 refine⟨out,hO,fun y=>?_⟩
 have h3:=h3 y []
 have h3':ew y.l (Yc y) (m+1) (y.l,g,us g m m,(m:Int),0,y,0,y.gs 1,[],List.replicate m (0:Int),[])=some (.brk (y.l,us g m m,y,0,y.gs 1,[],c',e')):=h3
 unfold gz
 rw[Nk hg,aM,hg.many,eA m,aA (mH _),aA (by omega),jB]
 grind [aF]
theorem GF{g:dN}{m:Nat}(hg:GG g m):∃out,KO g m out∧jt g=some out:=by
 obtain⟨out,hO,h⟩:=Z1 hg
 refine⟨out,hO,?_⟩
 unfold jt uQ
 rw[qP (r:=.brk out)]
 ·rfl
 simp_all[gp]
abbrev NM:=ZO
def kk(M:NM)(h:Int):Ze:=(aX (aP (.int .i64) (.map (.int .i64) .bool) h M)).map (·.1)
theorem jT{k z:Int}{v:α}{es:List (Int×α)}:z∈(aY (.int .i64) k v es).map (·.1)↔z=k∨z∈es.map (·.1):=by
 have h1:=di (kt:=.int .i64) rfl (k:=z) (es:=aY (.int .i64) k v es)
 have h2:=di (kt:=.int .i64) rfl (k:=z) (es:=es)
 by_cases h:z=k
 ·subst h
  exact⟨fun _=>Or.inl rfl,fun _=>h1.1 (fK (kt:=.int .i64) rfl _ _ _)⟩
 ·rw[lE (kt:=.int .i64) rfl h] at h1
  grind
variable{M:NM}
theorem rP{L:Zu}:kk (aY (.int .i64) h (some L) M) h=L.map (·.1):=by
 unfold kk
 rw[du (kt:=.int .i64) (vt:=.map (.int .i64) .bool) rfl]
 rfl
theorem ud{z:Int}{L:Zc}(hz:z≠h):kk (aY (.int .i64) h L M) z=kk M z:=by
 unfold kk
 rw[dF (kt:=.int .i64) (vt:=.map (.int .i64) .bool) rfl hz]
structure RG(m:Nat)(M:NM):Prop where
 jf:∀h,(kk M h).Nodup
 Ch:∀h x,x∈kk M h→0≤x∧x<(m:Int)
 VO:(M.map (·.1)).Nodup
 R9:∀x∈M.map (·.1),0≤x∧x<(m:Int)
theorem ue(m x:Int)(M:NM):rI m x M=some (decide (0≤x∧x<m),M):=by
 unfold rI
 grind
theorem RG.put{m:Nat}(hM:RG m M){x:Int}(hh:h∈M.map (·.1))(hx:0≤x∧x<(m:Int)):
 RG m (aY (.int .i64) h (some (aY (.int .i64) x true (aX (aP (.int .i64) (.map (.int .i64) .bool) h M)))) M):=by
 refine⟨fun z=>?_,fun z y hy=>?_,cU (kt:=.int .i64) rfl hM.VO,fun z hz=>?_⟩
 ·by_cases hz:z=h
  ·subst hz
   rw[rP]
   exact cU (kt:=.int .i64) rfl (hM.jf z)
  ·rw[ud hz];exact hM.jf z
 ·by_cases hz:z=h
  ·subst hz
   rw[rP,jT] at hy
   rcases hy with rfl|hy
   ·exact hx
   ·exact hM.Ch z y hy
  ·rw[ud hz] at hy;exact hM.Ch z y hy
 ·rw[jT] at hz
  rcases hz with rfl|hz
  ·exact hM.R9 _ hh
  ·exact hM.R9 z hz
theorem Nl{x z y:Int}:y∈kk (aY (.int .i64) h (some (aY (.int .i64) x true (aX (aP (.int .i64) (.map (.int .i64) .bool) h M)))) M) z↔(z=h∧y=x)∨y∈kk M z:=by
 by_cases hz:z=h
 ·subst hz
  rw[rP,jT]
  exact⟨fun hy=>hy.imp (fun e=>⟨rfl,e⟩) id,fun hy=>hy.imp (·.2) id⟩
 grind [ud]
abbrev Nn:Int×dN:=((140:Int),((0:Int),((none:Option NM),())))
theorem VQ{m:Nat}(hsm:m≤1000000)(i:Zp)(j k:Int)(fr:Zy)(h:dr)(hfr:fr.length≤aH):∀(n c:Nat)(M:NM),fr.length -c<n→c≤fr.length→RG m M→h.2.1∈M.map (·.1)→(∀z(hz:z<fr.length),z<c→fr[z].2.2.1∈kk M h.2.1)→
 (∃M',k7 n (i,j,k,fr,(fr.length:Int),(c:Int),(m:Int),h,M)=some (.brk (i,j,k,(m:Int),M'))∧RG m M'∧(∀z y,y∈kk M z→y∈kk M' z)∧∀f∈fr,f.2.2.1∈kk M' h.2.1)∨
  k7 n (i,j,k,fr,(fr.length:Int),(c:Int),(m:Int),h,M)=some (.ret (.ret Nn)):=by
 intro n
 have hB:=hB
 induction n with
 |zero=>grind
 |
  succ n ih=>
  intro c M hn hc hM hh hd
  unfold k7 at ih ⊢
  rw[aN]
  generalize aL _ n=rec at ih ⊢
  dsimp only
  by_cases hcl:c<fr.length
  ·rw[cH (by omega),eA c,aA (show(c:Int)<(fr.length:Int) by omega),cP (t:=aQ) hcl,ue,aM]
   dsimp only
   by_cases hx:0≤fr[c].2.2.1∧fr[c].2.2.1<(m:Int)
   ·rw[aC (by simp[hx]),aA (di (kt:=.int .i64) rfl |>.2 hh),aA (iH (kt:=.int .i64) rfl _)]
    have hlen:(aX (aP (.int .i64) (.map (.int .i64) .bool) h.2.1 M)).length≤m:=by
     have:=gx m (kk M h.2.1) (hM.jf _) (hM.Ch _)
     grind [kk]
    rw[aA (by omega),bk (by omega)]
    rcases ih (c+1) _ (by omega) (by omega) (hM.put hh hx) (by rw[jT];grind) (fun z hz hzc=>by
     rw[Nl]
     grind) with⟨M',e,h1,h2,h3⟩|e
    ·grind [Nl]
    grind
   ·rw[aA (by simp[hx])]
    exact Or.inr rfl
  ·rw[aC (by grind)]
   refine Or.inl ⟨M,rfl,hM,fun _ _ h=>h,fun f hf=>?_⟩
   obtain⟨z,hz,rfl⟩:=jZ hf
   grind
theorem Z2{m:Nat}(hsm:m≤1000000)(rs:Zp)(hrs:rs.length≤aH)(hfr:∀r∈rs,r.2.2.1.length≤aH):∀(n c:Nat)(M:NM),rs.length -c<n→c≤rs.length→RG m M→(∀z(hz:z<rs.length),z<c→∀f∈rs[z].2.2.1,f.2.2.1∈kk M rs[z].2.1)→
 (∃M',oD n (rs,(rs.length:Int),(c:Int),(m:Int),M)=some (.brk ((m:Int),M'))∧RG m M'∧∀r∈rs,∀f∈r.2.2.1,f.2.2.1∈kk M' r.2.1)∨
  oD n (rs,(rs.length:Int),(c:Int),(m:Int),M)=some (.ret Nn):=by
 intro n
 have hB:=hB
 induction n with
 |zero=>grind
 |
  succ n ih=>
  intro c M hn hc hM hd
  unfold oD at ih ⊢
  rw[aN]
  generalize aL _ n=rec at ih ⊢
  dsimp only
  by_cases hcl:c<rs.length
  ·rw[cH (by omega),eA c,aA (show(c:Int)<(rs.length:Int) by omega),cP (t:=bG) hcl,ue,aM]
   dsimp only
   by_cases hx:0≤rs[c].2.1∧rs[c].2.1<(m:Int)
   ·rw[aC (by simp[hx])]
    have hput:∃M1,RG m M1∧rs[c].2.1∈M1.map (·.1)∧(∀z y,y∈kk M z→y∈kk M1 z)∧
     (if !(bT (.int .i64) rs[c].2.1 M) then(if bT (.int .i64) rs[c].2.1 M=false then(if bl (.int .i64) rs[c].2.1 rs[c].2.1=true then(if List.length M+1≤aH then(some (cJ.brk (rs,(rs.length:Int),(c:Int),(m:Int),rs[c],aY (.int .i64) rs[c].2.1 (some ([]:Zu)) (aY (.int .i64) rs[c].2.1 (Ty.aD (.map (.int .i64) .bool)) M)))) else none) else none) else none) else(some (.brk (rs,(rs.length:Int),(c:Int),(m:Int),rs[c],M))):Option (cJ (List dr×Int×Int×Int×dr×NM) (cJ (List dr×Int×Int×Int×NM) (cJ (Int×NM) (Int×dN)))))=some (.brk (rs,(rs.length:Int),(c:Int),(m:Int),rs[c],M1)):=by
     cases hm:bT (.int .i64) rs[c].2.1 M with
     |true=>exact⟨M,hM,di (kt:=.int .i64) rfl |>.1 hm,fun _ _ h=>h,by grind⟩
     |
      false=>
      have hno:rs[c].2.1∉M.map (·.1):=fun h=>by
       have:=di (kt:=.int .i64) rfl |>.2 h
       grind
      have hk0:kk M rs[c].2.1= []:=by
       unfold kk
       rw[AZ (kt:=.int .i64) hm]
       rfl
      have hlen:M.length≤m:=by
       have:=gx m (M.map (·.1)) hM.VO hM.R9
       grind
      refine⟨_,⟨fun z=>?_,fun z y hy=>?_,cU (kt:=.int .i64) rfl (cU (kt:=.int .i64) rfl hM.VO),fun z hz=>?_⟩,jT.2 (Or.inl rfl),fun z y hy=>?_,by rw[aA (by simp),aA rfl,aA (iH (kt:=.int .i64) rfl _),aA (by omega)]⟩
      ·by_cases hz:z=rs[c].2.1
       ·grind [rP]
       ·rw[ud hz,ud hz];exact hM.jf z
      ·by_cases hz:z=rs[c].2.1
       ·subst hz;rw[rP] at hy;cases hy
       ·rw[ud hz,ud hz] at hy;exact hM.Ch z y hy
      ·rw[jT,jT] at hz
       rcases hz with rfl|rfl|hz
       ·exact hx
       ·exact hx
       ·exact hM.R9 z hz
      grind [ud]
    obtain⟨M1,hM1,hh1,hk1,e1⟩:=hput
    rw[e1,aF]
    dsimp only
    rcases VQ hsm rs (rs.length:Int) (c:Int) rs[c].2.2.1 rs[c] (hfr _ (fU hcl)) (rs[c].2.2.1.length+1) 0 M1 (by omega) (by omega) hM1 hh1 (fun z hz h=>by omega) with⟨M',e,h1,h2,h3⟩|e
    ·have e':k7 (Int.toNat (List.length rs[c].2.2.1:Int)+1) (rs,(rs.length:Int),(c:Int),rs[c].2.2.1,(List.length rs[c].2.2.1:Int),0,(m:Int),rs[c],M1)=some (.brk (rs,(rs.length:Int),(c:Int),(m:Int),M')):=e
     rw[e',aF]
     dsimp only
     rw[bk (by omega)]
     exact ih (c+1) M' (by omega) (by omega) h1 fun z hz hzc f hf=>by
      grind
    ·have e':k7 (Int.toNat (List.length rs[c].2.2.1:Int)+1) (rs,(rs.length:Int),(c:Int),rs[c].2.2.1,(List.length rs[c].2.2.1:Int),0,(m:Int),rs[c],M1)=some (.ret (.ret Nn)):=e
     rw[e',dB]
     grind
   ·rw[aA (by simp[hx])]
    exact Or.inr rfl
  ·rw[aC (by grind)]
   refine Or.inl ⟨M,rfl,hM,fun r hr=>?_⟩
   obtain⟨z,hz,rfl⟩:=jZ hr
   grind
structure SB(s:cu):Prop where
 dp:s.2.2.1.length≤1000000
 rules:s.2.2.2.1.length≤aH
 Z3:∀r∈s.2.2.2.1,r.2.2.1.length≤aH
theorem Sa{s:cu}(hs:SB s):(∃g,f142 s=some ((0:Int),g)∧GG g s.2.2.1.length∧∀r∈s.2.2.2.1,∀f∈r.2.2.1,f.2.2.1∈ks g r.2.1)∨f142 s=some Nn:=by
 have key:=Z2 hs.dp s.2.2.2.1 hs.rules hs.Z3 (s.2.2.2.1.length+1) 0 [] (by omega) (by omega) ⟨fun h=>List.nodup_nil,fun h x hx=>(by cases hx),List.nodup_nil,fun x hx=>(by cases hx)⟩ (fun z hz h=>by omega)
 unfold f142
 rcases key with⟨M',e,h1,h2⟩|e
 ·have e':oD (Int.toNat (s.2.2.2.1.length:Int)+1) (s.2.2.2.1,(s.2.2.2.1.length:Int),0,(s.2.2.1.length:Int),([]:NM))=some (.brk ((s.2.2.1.length:Int),M')):=e
  rw[e',aF]
  exact Or.inl ⟨_,rfl,⟨rfl,hs.dp,fun h=>h1.jf h,fun h x hx=>h1.Ch h x hx⟩,h2⟩
 ·have e':oD (Int.toNat (s.2.2.2.1.length:Int)+1) (s.2.2.2.1,(s.2.2.2.1.length:Int),0,(s.2.2.1.length:Int),([]:NM))=some (.ret Nn):=e
  rw[e',dB]
  grind
structure xL(s:cu)(l:Ze):Prop where
 jf:l.Nodup
 all:∀x,x∈l↔0≤x∧x<(s.2.2.1.length:Int)
 pre:∀r∈s.2.2.2.1,∀f∈r.2.2.1,l.idxOf f.2.2.1<l.idxOf r.2.1
theorem KO.all{g:dN}{m:Nat}(h:KO g m out)(hl:m≤out.length)(x:Int):x∈out↔0≤x∧x<(m:Int):=by
 refine⟨h.Ch x,fun hx=>?_⟩
 by_cases hm:x∈out
 ·exact hm
 ·have:=gx m (x::out) (List.nodup_cons.2 ⟨hm,h.jf⟩) fun y hy=>by
   rcases List.mem_cons.1 hy with rfl|hy
   ·exact hx
   ·exact h.Ch y hy
  grind
theorem Ee{s:cu}(hs:SB s):∃l ok e,f104 s=some (l,ok,e)∧(e=0→ok=true→(∀r∈s.2.2.2.1,0≤r.2.1∧r.2.1<(s.2.2.1.length:Int))→xL s l):=by
 unfold f104
 rcases Sa hs with⟨g,e,hg,hn⟩|e
 ·rw[e,aM]
  dsimp only
  rw[aC (by decide)]
  obtain⟨out,hO,ho⟩:=GF hg
  have ho:=(zN g).trans ho
  have e2:BA g=some g:=rfl
  rw[e2,aM,ho,aM,hg.many]
  by_cases hl:out.length<s.2.2.1.length
  ·simp_all
  ·rw[aC (by grind)]
   refine⟨_,_,_,rfl,fun _ _ hr=>⟨hO.jf,hO.all (by omega),fun r hrm f hf=>?_⟩⟩
   have hin:r.2.1∈out:=(hO.all (by omega) _).2 (hr r hrm)
   have hi:=List.idxOf_lt_length_of_mem hin
   have h1:=hO.pre _ hi f.2.2.1 (by grind)
   obtain⟨j,hj,e3⟩:=jZ h1
   rw[l6] at hj
   rw[List.getElem_take] at e3
   rw[←e3,hO.jf.idxOf_getElem]
   omega
 simp_all
theorem ki{A R:Type}{x:Option A}{f:A→Option R}(hx:∃a,x=some a)(hf:∀a,∃r,f a=some r):∃r,Option.bind x f=some r:=by
 obtain⟨a,rfl⟩:=hx
 exact hf a
theorem xM(x y:ZM)(hl:x.length≤aH):∃r,f145 x y=some r:=O5 .str (fun a b=>decide (a=b)) x y fun _=>hl
theorem JT(l:ZM)(hl:l.length≤aH):∃r,f263 l=some r:=by
 have hB:=hB
 have key:∀(n a:Nat)(d:List (Zi×Bool)),l.length -a<n→a≤l.length→d.length≤a→∃r,aI (U:=Unit) (Bq n (l,(l.length:Int),(a:Int),d)) (fun _=>some true)=some r:=by
  intro n
  induction n with
  |zero=>grind
  |
   succ n ih=>
   intro a d hn ha hd
   unfold Bq at ih ⊢
   rw[aN]
   generalize aL _ n=rec at ih ⊢
   dsimp only
   by_cases h:a<l.length
   ·rw[cH (by omega),eA a,aA (show(a:Int)<(l.length:Int) by omega)]
    split
    ·trivial
    ·rw[aA (by omega),bk (by omega)]
     exact ih (a+1) _ (by omega) (by omega) (dh (dw (kt:=.str)) (by omega))
   ·rw[aC (by grind)]
    trivial
 exact key _ 0 [] (by omega) (by omega) (by simp)
theorem JU(l:Ze)(hl:l.length≤aH):∃r,f188 l=some r∧(r=true→l.Nodup):=by
 have hB:=hB
 have key:∀(n a:Nat)(d:Zu),l.length -a<n→a≤l.length→d.length≤a→(∀x∈l.take a,aP (.int .i64) .bool x d=true)→(l.take a).Nodup→∃r,aI (U:=Unit) (Bt n (l,(l.length:Int),(a:Int),d)) (fun _=>some true)=some r∧(r=true→l.Nodup):=by
  intro n
  induction n with
  |zero=>grind
  |
   succ n ih=>
   intro a d hn ha hd h1 h2
   unfold Bt at ih ⊢
   rw[aN]
   generalize aL _ n=rec at ih ⊢
   dsimp only
   by_cases h:a<l.length
   ·rw[cH (by omega),eA a,aA (show(a:Int)<(l.length:Int) by omega),cP (t:=.int .i64) h]
    by_cases hs:aP (.int .i64) .bool l[a] d=true
    ·rw[aA hs];exact⟨false,rfl,fun h=>(by cases h)⟩
    ·rw[aC hs,aA (by omega),bk (by omega)]
     have ht:l.take (a+1)=l.take a++[l[a]]:=(List.take_append_getElem h).symm
     refine ih (a+1) _ (by omega) (by omega) (dh (dw (kt:=.int .i64)) (by omega)) (fun x hx=>?_) ?_
     ·rw[ht,i7,mG] at hx
      by_cases e:x=l[a]
      ·rw[e];exact du (kt:=.int .i64) (vt:=.bool) rfl _ _ _
      ·rw[dF (kt:=.int .i64) (vt:=.bool) rfl e];grind
     grind
   ·rw[aC (by grind)]
    have e:a=l.length:=by omega
    subst e
    rw[List.take_length] at h2
    exact⟨true,rfl,fun _=>h2⟩
 exact key _ 0 [] (by omega) (by omega) (by simp) (fun x hx=>(by cases hx)) List.nodup_nil
abbrev dS(t:dG):ZM:=t.2.2.2.2.2.1
theorem zU(t:dG)(n:Int):∃r,f259 t n=some r:=by
 unfold f259
 refine ki ?_ fun v=>⟨v,rfl⟩
 repeat' (first|exact⟨_,rfl⟩|split)
theorem JV(t:dG)(n:Int):∃r,f260 t n=some r:=by
 unfold f260
 refine ki ?_ fun v=>⟨v,rfl⟩
 repeat' (first|exact⟨_,rfl⟩|split)
theorem JW(t:dG)(n:Int):∃r,f261 t n=some r:=by
 unfold f261
 refine ki ?_ fun v=>⟨v,rfl⟩
 repeat' (first|exact⟨_,rfl⟩|split)
theorem JX(t:dG)(n:Int)(h:(dS t).length≤aH):∃r,f262 t n=some r:=by
 unfold f262
 obtain⟨q,hq⟩:=JT _ h
 grind
theorem qb(c:dx)(t:dG)(h:(dS t).length≤aH):∃r,f168 c t=some r:=by
 unfold f168
 by_cases h1:t.1<1
 ·rw[cH h1];exact⟨_,rfl⟩
 ·by_cases h2:(4:Int)<t.1
  ·rw[aC (by grind),cQ h2];exact⟨_,rfl⟩
  ·rw[aC (by grind),dE h2,aM,aC (by decide),aF]
   dsimp only
   rw[aA (by omega),aA (by omega),aC (by omega)]
   by_cases e1:t.1=1
   ·rw[aA e1];exact ki (zU _ _) fun v=>⟨v,rfl⟩
   ·rw[aC e1]
    by_cases e2:t.1=2
    ·rw[aA e2];exact ki (JV _ _) fun v=>⟨v,rfl⟩
    ·rw[aC e2]
     by_cases e3:t.1=3
     ·rw[aA e3];exact ki (JW _ _) fun v=>⟨v,rfl⟩
     ·rw[aC e3,aA (by omega)];exact ki (JX _ _ h) fun v=>⟨v,rfl⟩
theorem qc(c:dx)(u:gQ):∃r,f132 c u=some r:=by
 unfold f132
 refine ki ?_ fun v=>⟨v,rfl⟩
 by_cases h1:0≤u.2.2.2.1
 ·by_cases h2:u.2.2.2.1<(c.1.2.1.length:Int)
  ·rw[aA h1,aA h2]
   repeat' (first|exact⟨_,rfl⟩|split)
  ·rw[aC (show¬decide (u.2.2.2.1<(c.1.2.1.length:Int))=true by grind)]
   simp_all
 ·rw[aC (show¬decide ((0:Int)≤u.2.2.2.1)=true by grind)]
  simp_all
def cz(s:cu)(a:Int):ZH:=(nth bF s.2.2.1 a).2.2.2.2.1
structure S5(s:cu)(a b:Int):Prop where
 a0:0≤a
 a1:a<(s.2.2.1.length:Int)
 b0:0≤b
 b1:b<((cz s a).length:Int)
theorem la(c:dx)(a b:Int):(S5 c.1 a b∧f167 c a b=some (true,(nth bO (cz c.1 a) b).2.1))∨(¬S5 c.1 a b∧∃t,f167 c a b=some (false,t)):=by
 unfold f167
 by_cases h1:a<0
 ·rw[cH h1]
  exact Or.inr ⟨fun h=>by have:=h.a0;omega,_,rfl⟩
 ·rw[aC (by grind)]
  by_cases h2:(c.1.2.2.1.length:Int)≤a
  ·rw[cH h2]
   exact Or.inr ⟨fun h=>by have:=h.a1;omega,_,rfl⟩
  ·rw[aC (by grind)]
   by_cases h3:b<0
   ·rw[cH h3]
    exact Or.inr ⟨fun h=>by have:=h.b0;omega,_,rfl⟩
   ·rw[aC (by grind),aA (show 0≤a by omega),aA (show a<(c.1.2.2.1.length:Int) by omega)]
    by_cases h4:((cz c.1 a).length:Int)≤b
    ·have d4:decide (((cz c.1 a).length:Int)≤b)=true:=cQ h4
     unfold cz at d4
     rw[d4,aM,aA rfl]
     exact Or.inr ⟨fun h=>by have:=h.b1;omega,_,rfl⟩
    ·have d4:decide (((cz c.1 a).length:Int)≤b)=false:=dE h4
     have h5:b<((cz c.1 a).length:Int):=by omega
     have h6:=h5
     unfold cz at d4 h6
     rw[d4,aM,aC (by decide),aF]
     dsimp only
     rw[aA (show 0≤a by omega),aA (show a<(c.1.2.2.1.length:Int) by omega),aA (show 0≤b by omega),aA h6]
     exact Or.inl ⟨⟨by omega,by omega,by omega,h5⟩,rfl⟩
structure S6(c:fE)(t:gQ)(n:Int):Prop where
 v0:0≤t.2.2.1
 v1:t.2.2.1<n
 f:S5 c.1.1 (nth aQ c.2.1.2.2.1 t.2.2.1).2.2.1 t.2.2.2.1
theorem nH(c:fE)(t:gQ){n:Int}(hn:n≤(c.2.1.2.2.1.length:Int)):
 (S6 c t n∧f244 c t n=some (true,(nth bO (cz c.1.1 (nth aQ c.2.1.2.2.1 t.2.2.1).2.2.1) t.2.2.2.1).2.1))∨(¬S6 c t n∧∃y,f244 c t n=some (false,y)):=by
 unfold f244
 by_cases h1:t.2.2.1<0
 ·rw[cH h1]
  exact Or.inr ⟨fun h=>by have:=h.v0;omega,_,rfl⟩
 ·rw[aC (by grind)]
  by_cases h2:n≤t.2.2.1
  ·rw[cQ h2,aM,aA rfl]
   exact Or.inr ⟨fun h=>by have:=h.v1;omega,_,rfl⟩
  ·rw[dE h2,aM,aC (by decide),aF]
   dsimp only
   rw[aA (show 0≤t.2.2.1 by omega),aA (show t.2.2.1<(c.2.1.2.2.1.length:Int) by omega)]
   rcases la c.1 (nth aQ c.2.1.2.2.1 t.2.2.1).2.2.1 t.2.2.2.1 with⟨hi,e⟩|⟨hi,y,e⟩
   ·rw[e]
    exact Or.inl ⟨⟨by omega,by omega,hi⟩,rfl⟩
   ·rw[e]
    exact Or.inr ⟨fun h=>hi h.f,y,rfl⟩
theorem GH{t:dG}{n:Int}(h:f259 t n=some true):-1≤t.2.2.2.2.1∧t.2.2.2.2.1<n:=by
 unfold f259 at h
 grind
theorem uf{c:dx}{t:dG}(h:f168 c t=some true)(h1:t.1=1):-1≤t.2.2.2.2.1∧t.2.2.2.2.1<(c.1.2.1.length:Int):=by
 unfold f168 at h
 rw[aC (show¬decide (t.1<(1:Int))=true by grind),h1,aM,aC (by decide),aF] at h
 dsimp only at h
 rw[h1,aA (by decide),aA (by decide),aC (by decide),aA rfl] at h
 obtain⟨q,hq⟩:=zU t (c.1.2.1.length:Int)
 rw[hq] at h
 cases h
 exact GH hq
def JY(c:fE)(t:gQ):dG:=(nth bO (cz c.1.1 (nth aQ c.2.1.2.2.1 t.2.2.1).2.2.1) t.2.2.2.1).2.1
structure FO(c:fE)(j:Nat):Prop where
 s0:0≤(nth aQ c.2.1.2.2.1 (j:Int)).2.2.1
 s1:(nth aQ c.2.1.2.2.1 (j:Int)).2.2.1<(c.1.1.2.2.1.length:Int)
 of:(nth aQ c.2.1.2.2.1 (j:Int)).2.2.2.1.2.2.1= -1∨S6 c (nth aQ c.2.1.2.2.1 (j:Int)).2.2.2.1 (j:Int)
 pk:(nth aQ c.2.1.2.2.1 (j:Int)).2.2.2.1.2.2.1= -1∨(JY c (nth aQ c.2.1.2.2.1 (j:Int)).2.2.2.1).1=3
theorem VT(
 c:fE) (hl:c.2.1.2.2.1.length≤aH):∀(n i:Nat),c.2.1.2.2.1.length -i<n→i≤c.2.1.2.2.1.length→(∀j<i,FO c j)→
 (aI (U:=Unit) (vn n (c.2.1.2.2.1,(c.2.1.2.2.1.length:Int),(i:Int),c)) (fun _=>some true)=some true∧∀j<c.2.1.2.2.1.length,FO c j)∨aI (U:=Unit) (vn n (c.2.1.2.2.1,(c.2.1.2.2.1.length:Int),(i:Int),c)) (fun _=>some true)=some false:=by
 intro n
 have hB:=hB
 induction n with
 |zero=>grind
 |
  succ n ih=>
  intro i hn hi hd
  unfold vn at ih ⊢
  rw[aN]
  generalize aL _ n=rec at ih ⊢
  dsimp only
  by_cases h:i<c.2.1.2.2.1.length
  ·rw[cH (by
    omega),eA i,aA (show(i:Int)<(c.2.1.2.2.1.length:Int) by omega)]
   by_cases h1:(nth aQ c.2.1.2.2.1 (i:Int)).2.2.1<0
   ·rw[cH h1];exact Or.inr rfl
   ·rw[aC (show¬decide ((nth aQ c.2.1.2.2.1 (i:Int)).2.2.1<(0:Int))=true by grind)]
    by_cases h2:(c.1.1.2.2.1.length:Int)≤(nth aQ c.2.1.2.2.1 (i:Int)).2.2.1
    ·rw[cQ h2,aM,aA rfl];exact Or.inr rfl
    ·rw[dE h2,aM,aC (by decide),aF]
     dsimp only
     rw[bk (by omega)]
     by_cases h3:(nth aQ c.2.1.2.2.1 (i:Int)).2.2.2.1.2.2.1= -1
     ·rw[cH h3]
      exact ih (i+1) (by omega) (by omega) fun j hj=>by
       by_cases e:j=i
       ·subst e;exact⟨Int.not_lt.1 h1,Int.not_le.1 h2,Or.inl h3,Or.inl h3⟩
       grind
     ·rw[aC (show¬decide ((nth aQ c.2.1.2.2.1 (i:Int)).2.2.2.1.2.2.1=(-1:Int))=true by grind)]
      rcases nH c (nth aQ c.2.1.2.2.1 (i:Int)).2.2.2.1 (n:=(i:Int)) (by omega) with⟨hit,e⟩|⟨_,y,e⟩
      ·rw[e,aM]
       dsimp only
       rw[aC (by decide),aM]
       by_cases h4:(JY c (nth aQ c.2.1.2.2.1 (i:Int)).2.2.2.1).1=3
       ·have h5:=h4
        unfold JY at h5
        rw[aC (by simp[h5])]
        exact ih (i+1) (by omega) (by omega) fun j hj=>by
         by_cases e:j=i
         ·subst e;exact⟨Int.not_lt.1 h1,Int.not_le.1 h2,Or.inr hit,Or.inr h4⟩
         grind
       ·unfold JY at h4
        rw[aA (by grind)]
        exact Or.inr rfl
      ·rw[e,aM]
       dsimp only
       rw[aA (by decide),aM,aA rfl]
       exact Or.inr rfl
  ·rw[aC (by grind)]
   exact Or.inl ⟨rfl,fun j hj=>hd j (by omega)⟩
theorem GI(c:fE)(hl:c.2.1.2.2.1.length≤aH):(f185 c=some true∧1≤c.2.1.2.2.1.length∧c.2.1.2.2.1.length≤3∧∀j<c.2.1.2.2.1.length,FO c j)∨f185 c=some false:=by
 unfold f185
 by_cases h1:(c.2.1.2.2.1.length:Int)<1
 ·rw[cH h1];exact Or.inr rfl
 ·rw[aC (show¬decide ((c.2.1.2.2.1.length:Int)<(1:Int))=true by grind)]
  by_cases h2:(3:Int)<(c.2.1.2.2.1.length:Int)
  ·rw[cQ h2,aM,aA rfl];exact Or.inr rfl
  ·rw[dE h2,aM,aC (by decide),aF]
   rcases VT c hl (c.2.1.2.2.1.length+1) 0 (by omega) (by omega) (fun j hj=>by omega) with⟨e,h⟩|e<;>grind
def UO(s:cu):Prop:=∀x∈s.2.2.1,∀f∈x.2.2.2.2.1,f.2.1.1=1→-1≤f.2.1.2.2.2.2.1∧f.2.1.2.2.2.2.1<(s.2.1.length:Int)
def NB(s:cu):Prop:=∀x∈s.2.2.1,x.2.2.2.2.1.length≤aH∧∀f∈x.2.2.2.2.1,(dS f.2.1).length≤aH
theorem S5.mem{s:cu}{a b:Int}(h:S5 s a b):nth bF s.2.2.1 a∈s.2.2.1∧nth bO (cz s a) b∈(nth bF s.2.2.1 a).2.2.2.2.1:=
 ⟨dc h.a0 h.a1,dc (t:=bO) (l:=cz s a) h.b0 h.b1⟩
theorem xN(c:dx)(a b:dG)(hn:(dS a).length≤aH)(ha:a.1=1→-1≤a.2.2.2.2.1∧a.2.2.2.2.1<(c.1.2.1.length:Int))(hb:b.1=1→-1≤b.2.2.2.2.1∧b.2.2.2.2.1<(c.1.2.1.length:Int)):∃r,f246 c a b=some r:=by
 unfold f246
 by_cases h1:a.1=b.1
 ·rw[aC (by simp[h1])]
  by_cases h4:a.1=4
  ·rw[cH h4]
   obtain⟨q,hq⟩:=xM (dS a) (dS b) hn
   unfold dS at hq
   rw[hq];exact⟨_,rfl⟩
  ·rw[aC (show¬decide (a.1=(4:Int))=true by grind)]
   by_cases e1:a.1=1
   ·obtain⟨ha1,ha2⟩:=ha e1
    obtain⟨hb1,hb2⟩:=hb (by omega)
    rw[aC (by simp[e1])]
    by_cases u1:a.2.2.2.2.1= -1
    ·rw[cH u1];exact⟨_,rfl⟩
    ·rw[aC (show¬decide (a.2.2.2.2.1=(-1:Int))=true by grind)]
     by_cases u2:b.2.2.2.2.1= -1
     ·rw[cQ u2];exact⟨_,rfl⟩
     ·rw[dE u2,aM,aC (by decide),aF]
      dsimp only
      rw[aA (by omega),aA ha2,aA (by omega),aA hb2]
      grind
   ·rw[aA (by simp[e1])];exact⟨_,rfl⟩
 ·rw[aA (by simp[h1])];trivial
def ym(c:fE)(t:gQ):Prop:=S6 c t (c.2.1.2.2.1.length:Int)∨t.2.2.1= -1
def SV(c:fE)(y:dG)(t:gQ):Prop:=(t.2.2.1= -1∧y.2.1≤t.2.2.2.2.1∧t.2.2.2.2.1≤y.2.2.1)∨(S6 c t (c.2.1.2.2.1.length:Int)∧y.2.1≤(JY c t).2.1∧(JY c t).2.2.1≤y.2.2.1)
theorem S7{P:Prop}{x:Zl}(h:∃z,x=some z∧(z=true→P)):∃r,(Option.bind x fun v=>some v)=some r∧(r=true→P):=by
 grind
def GT(s:cu)(y:dG):Prop:=(dS y).length≤aH∧(y.1=1→-1≤y.2.2.2.2.1∧y.2.2.2.2.1<(s.2.1.length:Int))
theorem S6.gt{c:fE}{t:gQ}{n:Int}(h:S6 c t n)(hN:NB c.1.1)(hU:UO c.1.1):GT c.1.1 (JY c t):=by
 obtain⟨h1,h2⟩:=h.f.mem
 exact⟨(hN _ h1).2 _ h2,hU _ h1 _ h2⟩
theorem ug(t:gQ):∃r,f245 t=some r∧(r=true→t.2.2.1= -1):=by
 unfold f245
 by_cases h:t.2.2.1= -1
 ·obtain⟨r,hr⟩:∃r,(Option.bind (α:=Bool) (if decide (t.2.2.1=(-1:Int)) then(if decide ((0:Int)≤t.2.2.2.2.1) then(some (decide (t.2.2.2.2.1≤(1048576:Int)))) else(some false)) else(some false)) fun v1=>some v1)=some r:=by
   refine ki ?_ fun v=>⟨v,rfl⟩
   repeat' (first|exact⟨_,rfl⟩|split)
  grind
 simp_all
theorem No(c:fE)(y:dG)(t:gQ)(hN:NB c.1.1):∃r,f187 c y t=some r∧(r=true→ym c t∧SV c y t):=by
 unfold f187
 obtain⟨b,hb,hbm⟩:=ug t
 rw[hb,aM]
 cases b with
 |
  true=>
  rw[aA rfl]
  refine S7 ?_
  by_cases h1:y.2.1≤t.2.2.2.2.1
  ·rw[cH h1]
   exact⟨_,rfl,fun h=>⟨Or.inr (hbm rfl),Or.inl ⟨hbm rfl,h1,of_decide_eq_true h⟩⟩⟩
  grind
 |
  false=>
  rw[aC (by decide)]
  rcases nH c t (n:=(c.2.1.2.2.1.length:Int)) (mH _) with⟨hi,e⟩|⟨_,z,e⟩
  ·rw[e,aM]
   dsimp only
   have h1:=hi.f.mem
   obtain⟨q,hq⟩:=xM (dS (JY c t)) (dS y) ((hN _ h1.1).2 _ h1.2)
   unfold dS JY at hq
   refine S7 ?_
   rw[aA rfl]
   simp only[hq,aM]
   by_cases g1:y.2.1≤(JY c t).2.1
   ·by_cases g2:(JY c t).2.2.1≤y.2.2.1
    ·have key:∀x:Zl,(∃r,x=some r)→∃r,x=some r∧(r=true→ym c t∧SV c y t):=fun x ⟨r,hr⟩=>⟨r,hr,fun _=>⟨Or.inl hi,Or.inr ⟨hi,g1,g2⟩⟩⟩
     apply key
     grind
    simp_all[JY,dE]
   simp_all[JY,dE]
  grind
theorem VU(c:fE)(a:rM)(hN:NB c.1.1)(hU:UO c.1.1)(e:Zw)(he:e.length≤1000):∀(n i:Nat)(g:List dG),e.length -i<n→i≤e.length→g.length≤i→(∀y∈g,GT c.1.1 y)→(∀j(hj:j<e.length),j<i→ym c e[j])→
 (∃g',oA n ((e.length:Int),(i:Int),c,a,e,g)=some (.brk (c,a,g'))∧g'.length≤e.length∧(∀y∈g',GT c.1.1 y)∧∀t∈e,ym c t)∨oA n ((e.length:Int),(i:Int),c,a,e,g)=some (.ret false):=by
 intro n
 have hB:=hB
 induction n with
 |zero=>grind
 |
  succ n ih=>
  intro i g hn hi hgl hg hd
  unfold oA at ih ⊢
  rw[aN]
  generalize aL _ n=rec at ih ⊢
  dsimp only
  by_cases h:i<e.length
  ·rw[cH (by omega),eA i,aA (show(i:Int)<(e.length:Int) by omega),cP (t:=aU) h,bk (by omega)]
   rcases nH c e[i] (n:=(c.2.1.2.2.1.length:Int)) (mH _) with⟨hit,e1⟩|⟨_,y,e1⟩
   ·rw[e1,aM]
    dsimp only
    rw[aC (by decide),aM,aC (by decide),aA rfl,aA (show(g.length+List.length [_])*72≤aH by grind)]
    exact ih (i+1) _ (by omega) (by omega) (by grind) (fun z hz=>by
     rcases List.mem_append.1 hz with hz|hz
     ·grind
     ·rw[mG] at hz
      subst hz
      exact hit.gt hN hU) fun j hj hji=>by
     by_cases ej:j=i
     ·subst ej;exact Or.inl hit
     grind
   ·rw[e1,aM]
    dsimp only
    obtain⟨b,hb,hbm⟩:=ug e[i]
    rw[aA (by decide),hb,aM,aM]
    cases b with
    |false=>rw[aA (by decide)];exact Or.inr rfl
    |
     true=>
     rw[aC (by decide),aC (by decide)]
     exact ih (i+1) g (by omega) (by omega) (by omega) hg fun j hj hji=>by
      by_cases ej:j=i
      ·subst ej;exact Or.inr (hbm rfl)
      grind
  ·rw[aC (by grind)]
   refine Or.inl ⟨g,rfl,by omega,hg,fun t ht=>?_⟩
   obtain⟨j,hj,rfl⟩:=jZ ht
   grind
theorem Sb(a:rM)(g:List dG)(hg:g.length≤1000):∀(n i:Nat),g.length -i<n→i≤g.length→∃r,aI (U:=Unit) (nD n ((g.length:Int),(i:Int),a,g)) (fun _=>some true)=some r:=by
 intro n
 induction n with
 |zero=>grind
 |
  succ n ih=>
  intro i hn hi
  unfold nD at ih ⊢
  rw[aN]
  generalize aL _ n=rec at ih ⊢
  dsimp only
  by_cases h:i<g.length
  ·rw[cH (by omega),eA i,aA (show(i:Int)<(g.length:Int) by omega),bk (by omega)]
   have key:∀v:Bool,∃r,aI (U:=Unit) (Option.bind (α:=Bool) (if decide (a.1=(2:Int)) then(some (!v)) else(if decide (a.1=(3:Int)) then(some (!v)) else(some false))) fun v16=>if v16=true then(bX (some false)) else(rec ((g.length:Int),((i+1:Nat):Int),a,g))) (fun _=>some true)=some r:=by
    intro v
    have h2:∀w:Bool,∃r,aI (U:=Unit) (if w=true then(bX (some false)) else(rec ((g.length:Int),((i+1:Nat):Int),a,g))) (fun _=>some true)=some r:=fun w=>by
     cases w with
     |true=>exact⟨_,rfl⟩
     |false=>grind
    split
    ·exact h2 (!v)
    ·split
     ·exact h2 (!v)
     grind
   split
   ·grind
   ·exact key _
  ·rw[aC (by grind)]
   trivial
theorem JZ(c:fE)(a:rM)(hN:NB c.1.1)(hU:UO c.1.1):∃r,f186 c a=some r∧(r=true→ym c a.2.1∧ym c a.2.2.1):=by
 have hB:=hB
 unfold f186
 by_cases h1:a.1<1
 ·rw[cH h1];exact⟨_,rfl,fun h=>(by cases h)⟩
 ·rw[aC (show¬decide (a.1<(1:Int))=true by grind)]
  by_cases h2:(4:Int)<a.1
  ·rw[cQ h2];exact⟨_,rfl,fun h=>(by cases h)⟩
  ·rw[dE h2,aM,aC (by decide),aF]
   dsimp only
   rcases VU c a hN hU [a.2.1,a.2.2.1] (by simp) 3 0 [] (by simp) (by simp) (by simp) (fun y hy=>(by cases hy)) (fun j hj h=>by omega) with⟨g,e,hgl,hg,ht⟩|e
   ·have e':oA (Int.toNat (List.length [a.2.1,a.2.2.1]:Int)+1) ((List.length [a.2.1,a.2.2.1]:Int),0,c,a,[a.2.1,a.2.2.1],([]:List dG))=some (.brk (c,a,g)):=e
    rw[e',aF]
    dsimp only
    have hgl2:g.length≤2:=hgl
    have key:∀x:Zl,(∃r,x=some r)→∃r,x=some r∧(r=true→ym c a.2.1∧ym c a.2.2.1):=fun x ⟨r,hr⟩=>⟨r,hr,fun _=>⟨ht _ (by simp),ht _ (by simp)⟩⟩
    apply key
    have h16:∃r,aI (U:=Unit) (nD (Int.toNat (g.length:Int)+1) ((g.length:Int),0,a,g)) (fun _=>some true)=some r:=Sb a g (by omega) _ 0 (by omega) (by omega)
    have h3:∀v:Bool,∃r,aI (U:=rM×List dG) (if v=true then(bX (some false)) else(some (.brk (a,g)))) (fun u=>match u with|⟨x,f⟩=>aI (U:=Unit) (nD (Int.toNat (f.length:Int)+1) ((f.length:Int),0,x,f)) fun _=>some true)=some r:=fun v=>by
     cases v with
     |true=>exact⟨_,rfl⟩
     |false=>exact h16
    by_cases g0:(g.length:Int)=0
    ·simp_all
    ·rw[aC (show¬decide ((g.length:Int)=(0:Int))=true by grind)]
     by_cases g2:(g.length:Int)=2
     ·rw[cH g2,aA (by omega),aA (by omega)]
      have m0:=hg _ (dc (t:=fD) (l:=g) (a:=0) (by omega) (by omega))
      have m1:=hg _ (dc (t:=fD) (l:=g) (a:=1) (by omega) (by omega))
      obtain⟨q,hq⟩:=xN c.1 (nth fD g (0:Int)) (nth fD g (1:Int)) m0.1 m0.2 m1.2
      rw[hq]
      exact h3 _
     simp_all
   ·have e':oA (Int.toNat (List.length [a.2.1,a.2.2.1]:Int)+1) ((List.length [a.2.1,a.2.2.1]:Int),0,c,a,[a.2.1,a.2.2.1],([]:List dG))=some (.ret false):=e
    simp_all[dB]
structure RK(c:fE):Prop where
 n1:1≤c.2.1.2.2.1.length
 n3:c.2.1.2.2.1.length≤3
 fo:∀j<c.2.1.2.2.1.length,FO c j
 wh:∀a∈c.2.1.2.2.2.1,ym c a.2.1∧ym c a.2.2.1
 h0:0≤c.2.1.2.1
 h1:c.2.1.2.1<(c.1.1.2.2.1.length:Int)
 st:∀s∈c.2.1.2.2.2.2.1,S5 c.1.1 c.2.1.2.1 s.2.1∧ym c s.2.2.1
 sv:∀s∈c.2.1.2.2.2.2.1,s.2.1≠0∧SV c (nth bO (cz c.1.1 c.2.1.2.1) s.2.1).2.1 s.2.2.1
 sd:(c.2.1.2.2.2.2.1.map (·.2.1)).Nodup
 sn:(c.2.1.2.2.2.2.1.length:Int)=bp (((cz c.1.1 c.2.1.2.1).length:Int) -(1:Int))
theorem VV(c:fE)(hN:NB c.1.1)(hU:UO c.1.1)(l:ZB)(hl:l.length≤aH):∀(n i:Nat),l.length -i<n→i≤l.length→(∀j(hj:j<l.length),j<i→ym c l[j].2.1∧ym c l[j].2.2.1)→
 (rE n (l,(l.length:Int),(i:Int),c)=some (.brk c)∧∀a∈l,ym c a.2.1∧ym c a.2.2.1)∨rE n (l,(l.length:Int),(i:Int),c)=some (.ret false):=by
 intro n
 have hB:=hB
 induction n with
 |zero=>grind
 |
  succ n ih=>
  intro i hn hi hd
  unfold rE at ih ⊢
  rw[aN]
  generalize aL _ n=rec at ih ⊢
  dsimp only
  by_cases h:i<l.length
  ·obtain⟨r,hr,hm⟩:=JZ c l[i] hN hU
   rw[cH (by omega),eA i,aA (show(i:Int)<(l.length:Int) by omega),cP (t:=aV) h,bk (by omega),hr,aM]
   cases r with
   |false=>rw[aA (by decide)];exact Or.inr rfl
   |
    true=>
    rw[aC (by decide)]
    exact ih (i+1) (by omega) (by omega) fun j hj hji=>by
     by_cases ej:j=i
     ·grind
     ·exact hd j hj (by omega)
  ·rw[aC (by grind)]
   refine Or.inl ⟨rfl,fun t ht=>?_⟩
   obtain⟨j,hj,rfl⟩:=jZ ht
   grind
theorem Sd(c:fE)(hN:NB c.1.1)(h0:Int)(l:ZC)(hl:l.length*80≤aH):∀(n i:Nat)(g:Ze),l.length -i<n→i≤l.length→g=(l.take i).map (·.2.1)→(∀j(hj:j<l.length),j<i→S5 c.1.1 h0 l[j].2.1∧ym c l[j].2.2.1∧l[j].2.1≠0∧SV c (nth bO (cz c.1.1 h0) l[j].2.1).2.1 l[j].2.2.1)→
 (∃g',kZ n (h0,l,(l.length:Int),(i:Int),c,g)=some (.brk g')∧g'=l.map (·.2.1)∧∀s∈l,S5 c.1.1 h0 s.2.1∧ym c s.2.2.1∧s.2.1≠0∧SV c (nth bO (cz c.1.1 h0) s.2.1).2.1 s.2.2.1)∨kZ n (h0,l,(l.length:Int),(i:Int),c,g)=some (.ret false):=by
 intro n
 have hB:=hB
 induction n with
 |zero=>grind
 |
  succ n ih=>
  intro i g hn hi hgl hd
  unfold kZ at ih ⊢
  rw[aN]
  generalize aL _ n=rec at ih ⊢
  dsimp only
  by_cases h:i<l.length
  ·rw[cH (by omega),eA i,aA (show(i:Int)<(l.length:Int) by omega),cP (t:=bu) h,bk (by omega)]
   rcases la c.1 h0 l[i].2.1 with⟨hit,e1⟩|⟨_,y,e1⟩
   ·rw[e1,aM]
    dsimp only
    rw[aC (by decide)]
    by_cases hz:l[i].2.1=0
    ·rw[cH hz,aM,aA rfl];exact Or.inr rfl
    ·obtain⟨r,hr,hm⟩:=No c (nth bO (cz c.1.1 h0) l[i].2.1).2.1 l[i].2.2.1 hN
     rw[aC (show¬decide (l[i].2.1=(0:Int))=true by grind),hr,aM,aM]
     cases r with
     |false=>rw[aA (by decide)];exact Or.inr rfl
     |
      true=>
      rw[aC (by decide),aA (show(g.length+List.length [_])*8≤aH by rw[kD,hgl,jC,l6];omega)]
      exact ih (i+1) _ (by omega) (by omega) (by rw[hgl,←List.take_append_getElem h,fV];rfl) fun j hj hji=>by
       by_cases ej:j=i
       ·grind
       ·exact hd j hj (by omega)
   ·rw[e1,aM]
    dsimp only
    rw[aA (by decide),aM,aA rfl];exact Or.inr rfl
  ·rw[aC (by grind)]
   refine Or.inl ⟨g,rfl,by simp_all[gL],fun t ht=>?_⟩
   obtain⟨j,hj,rfl⟩:=jZ ht
   exact hd j hj (by omega)
theorem J0(c:fE)(hN:NB c.1.1)(hU:UO c.1.1)(hf:c.2.1.2.2.1.length≤aH)(hw:c.2.1.2.2.2.1.length≤aH)(hs:c.2.1.2.2.2.2.1.length*80≤aH):∃r,f130 c=some r∧(r=true→RK c):=by
 have hB:=hB
 have no:∀x:Zl,x=some false→∃r,x=some r∧(r=true→RK c):=fun x hx=>⟨false,hx,fun h=>(by cases h)⟩
 unfold f130
 rcases GI c hf with⟨e,h1,h3,hfo⟩|e
 ·rw[e,aM,aC (by decide)]
  by_cases h8:(8:Int)<(c.2.1.2.2.2.1.length:Int)
  ·rw[cQ h8];exact no _ rfl
  ·rw[dE h8,aM,aC (by decide),aF]
   rcases VV c hN hU c.2.1.2.2.2.1 hw (c.2.1.2.2.2.1.length+1) 0 (by omega) (by omega) (fun j hj h=>by omega) with⟨e4,hwh⟩|e4
   ·have e4':rE (Int.toNat (c.2.1.2.2.2.1.length:Int)+1) (c.2.1.2.2.2.1,(c.2.1.2.2.2.1.length:Int),0,c)=some (.brk c):=e4
    rw[e4',aF]
    by_cases d1:c.2.1.2.1<0
    ·rw[cH d1];exact no _ rfl
    ·rw[aC (show¬decide (c.2.1.2.1<(0:Int))=true by grind)]
     by_cases d2:(c.1.1.2.2.1.length:Int)≤c.2.1.2.1
     ·rw[cH d2];exact no _ rfl
     ·rw[aC (show¬decide ((c.1.1.2.2.1.length:Int)≤c.2.1.2.1)=true by grind),aA (Int.not_lt.1 d1),aA (Int.not_le.1 d2),aM]
      by_cases hsn:(c.2.1.2.2.2.2.1.length:Int)=bp (((cz c.1.1 c.2.1.2.1).length:Int) -(1:Int))
      rotate_left
      ·unfold cz at hsn
       rw[aA (by grind)];exact no _ rfl
      ·have hsn':=hsn
       unfold cz at hsn'
       rw[aC (by grind),aF]
       dsimp only
       rcases Sd c hN c.2.1.2.1 c.2.1.2.2.2.2.1 hs (c.2.1.2.2.2.2.1.length+1) 0 [] (by omega) (by omega) rfl (fun j hj h=>by omega) with⟨g,e14,hgl,hst⟩|e14
       ·have e14':kZ (Int.toNat (c.2.1.2.2.2.2.1.length:Int)+1) (c.2.1.2.1,c.2.1.2.2.2.2.1,(c.2.1.2.2.2.2.1.length:Int),0,c,([]:Ze))=some (.brk g):=e14
        rw[e14',aF]
        obtain⟨q,hq,hqd⟩:=JU g (by grind)
        rw[hq]
        exact⟨q,rfl,fun hq1=>⟨h1,h3,hfo,hwh,Int.not_lt.1 d1,Int.not_le.1 d2,fun s hs=>⟨(hst s hs).1,(hst s hs).2.1⟩,fun s hs=>(hst s hs).2.2,hgl▸hqd hq1,hsn⟩⟩
       ·have e14':kZ (Int.toNat (c.2.1.2.2.2.2.1.length:Int)+1) (c.2.1.2.1,c.2.1.2.2.2.2.1,(c.2.1.2.2.2.2.1.length:Int),0,c,([]:Ze))=some (.ret false):=e14
        rw[e14',dB];grind
   simp_all[dB]
 ·rw[e,aM,aA (by decide)];exact no _ rfl
theorem Np(x:ZH)(a b:Int)(w:UQ)(c:dx):∀(n i:Nat),4 -i<n→i≤4→oz n (x,a,b,w,(i:Int),c)=some (.brk (x,a,b,c))∨oz n (x,a,b,w,(i:Int),c)=some (.ret (.ret false)):=by
 intro n
 induction n with
 |zero=>grind
 |
  succ n ih=>
  intro i hn hi
  unfold oz at ih ⊢
  rw[aN]
  generalize aL _ n=rec at ih ⊢
  dsimp only
  by_cases h:i<4
  ·rw[cH (by omega),eA i,aA (show(i:Int)<4 by omega),bk (by omega)]
   have h2:∀v:Bool,(if v=true then(bX (bX (some false))) else(rec (x,a,b,w,((i+1:Nat):Int),c)))=some (.brk (x,a,b,c))∨(if v=true then(bX (bX (some false))) else(rec (x,a,b,w,((i+1:Nat):Int),c)))=some (.ret (.ret false)):=fun v=>by
    cases v with
    |true=>exact Or.inr rfl
    |false=>exact ih (i+1) (by omega) (by omega)
   split
   ·simp_all
   ·exact h2 _
  grind
theorem Nq(c:dx)(l:ZH)(hl:l.length≤aH)(hn:∀f∈l,(dS f.2.1).length≤aH):∀(n i:Nat),l.length -i<n→i≤l.length→(∀j(hj:j<l.length),j<i→f168 c l[j].2.1=some true)→
 (aI (U:=Unit) (vg n (l,(l.length:Int),(i:Int),c)) (fun _=>some true)=some true∧∀f∈l,f168 c f.2.1=some true)∨aI (U:=Unit) (vg n (l,(l.length:Int),(i:Int),c)) (fun _=>some true)=some false:=by
 intro n
 have hB:=hB
 induction n with
 |zero=>grind
 |
  succ n ih=>
  intro i hn' hi hd
  unfold vg at ih ⊢
  rw[aN]
  generalize aL _ n=rec at ih ⊢
  dsimp only
  by_cases h:i<l.length
  ·obtain⟨r,hr⟩:=qb c l[i].2.1 (hn _ (fU h))
   rw[cH (by omega),eA i,aA (show(i:Int)<(l.length:Int) by omega),cP (t:=bO) h,hr,aM]
   cases r with
   |false=>rw[aA (by decide)];exact Or.inr rfl
   |
    true=>
    rw[aC (by decide)]
    have e9:=Np l (l.length:Int) (i:Int) l[i].2.2.1 c (Int.toNat (4:Int)+1) 0 (by decide) (by decide)
    rcases e9 with e9|e9
    ·have e9':oz (Int.toNat (4:Int)+1) (l,(l.length:Int),(i:Int),l[i].2.2.1,0,c)=some (.brk (l,(l.length:Int),(i:Int),c)):=e9
     rw[e9',aF]
     dsimp only
     rw[bk (by omega)]
     exact ih (i+1) (by omega) (by omega) fun j hj hji=>by
      grind
    ·have e9':oz (Int.toNat (4:Int)+1) (l,(l.length:Int),(i:Int),l[i].2.2.1,0,c)=some (.ret (.ret false)):=e9
     simp_all[dB]
  ·rw[aC (by grind)]
   refine Or.inl ⟨rfl,fun t ht=>?_⟩
   obtain⟨j,hj,rfl⟩:=jZ ht
   grind
theorem uh(c:dx)(x:lW)(hl:x.2.2.2.2.1.length≤aH)(hn:∀f∈x.2.2.2.2.1,(dS f.2.1).length≤aH):∃r,f134 c x=some r∧(r=true→(1≤x.2.2.2.2.1.length∧(nth bO x.2.2.2.2.1 (0:Int)).2.1.1=3)∧∀f∈x.2.2.2.2.1,f168 c f.2.1=some true):=by
 have no:∀y:Zl,y=some false→∃r,y=some r∧(r=true→(1≤x.2.2.2.2.1.length∧(nth bO x.2.2.2.2.1 (0:Int)).2.1.1=3)∧∀f∈x.2.2.2.2.1,f168 c f.2.1=some true):=fun y hy=>⟨false,hy,fun h=>(by cases h)⟩
 unfold f134
 by_cases h1:x.2.2.1<0
 ·rw[cH h1];exact no _ rfl
 ·rw[aC (show¬decide (x.2.2.1<(0:Int))=true by grind)]
  by_cases h2:(c.1.1.length:Int)≤x.2.2.1
  ·rw[cH h2];exact no _ rfl
  ·rw[aC (show¬decide ((c.1.1.length:Int)≤x.2.2.1)=true by grind)]
   by_cases h3:x.2.2.2.1<1
   ·rw[cH h3];exact no _ rfl
   ·rw[aC (show¬decide (x.2.2.2.1<(1:Int))=true by grind)]
    by_cases h4:(255:Int)<x.2.2.2.1
    ·rw[cH h4];exact no _ rfl
    ·rw[aC (show¬decide ((255:Int)<x.2.2.2.1)=true by grind)]
     by_cases h5:(x.2.2.2.2.1.length:Int)<1
     ·rw[cH h5];exact no _ rfl
     ·rw[aC (show¬decide ((x.2.2.2.2.1.length:Int)<(1:Int))=true by grind)]
      by_cases h6:(12:Int)<(x.2.2.2.2.1.length:Int)
      ·rw[cH h6];exact no _ rfl
      ·rw[aC (show¬decide ((12:Int)<(x.2.2.2.2.1.length:Int))=true by grind),aA (show(0:Int)<(x.2.2.2.2.1.length:Int) by omega),aM]
       by_cases h7:(nth bO x.2.2.2.2.1 (0:Int)).2.1.1=3
       rotate_left
       ·rw[aA (by grind)];exact no _ rfl
       ·rw[aC (by simp[h7]),aF]
        dsimp only
        rcases Nq c x.2.2.2.2.1 hl hn (x.2.2.2.2.1.length+1) 0 (by omega) (by omega) (fun j hj h=>by omega) with⟨e,h⟩|e<;>grind
theorem yn(c:dx)(p:oL)(hp:p.2.1.length≤aH):∃r,f137 c p=some r:=by
 have hB:=hB
 have key:∀(n i:Nat),p.2.1.length -i<n→i≤p.2.1.length→oB n (p.2.1,(p.2.1.length:Int),(i:Int),c,p)=some (.brk p)∨oB n (p.2.1,(p.2.1.length:Int),(i:Int),c,p)=some (.ret false):=by
  intro n
  induction n with
  |zero=>grind
  |
   succ n ih=>
   intro i hn hi
   unfold oB at ih ⊢
   rw[aN]
   generalize aL _ n=rec at ih ⊢
   dsimp only
   by_cases h:i<p.2.1.length
   ·rw[cH (by omega),eA i,aA (show(i:Int)<(p.2.1.length:Int) by omega),bk (by omega)]
    rcases la c (nth fa p.2.1 (i:Int)).2.2.1 (nth fa p.2.1 (i:Int)).2.2.2.1 with⟨_,e1⟩|⟨_,y,e1⟩
    ·grind
    ·rw[e1,aM]
     exact Or.inr rfl
   grind
 unfold f137
 have e:=key (Int.toNat (p.2.1.length:Int)+1) 0 (by omega) (by omega)
 rcases e with e|e
 ·have e':oB (Int.toNat (p.2.1.length:Int)+1) (p.2.1,(p.2.1.length:Int),0,c,p)=some (.brk p):=e
  rw[e',aF]
  refine ki ?_ fun v=>⟨v,rfl⟩
  repeat' (first|exact⟨_,rfl⟩|split)
 ·have e':oB (Int.toNat (p.2.1.length:Int)+1) (p.2.1,(p.2.1.length:Int),0,c,p)=some (.ret false):=e
  simp_all[dB]
structure SW(s:cu):Prop where
 nI:s.2.1.length≤aH
 dp:s.2.2.1.length≤aH
 rules:s.2.2.2.1.length≤aH
 fh:s.2.2.2.2.2.1.length≤aH
 nb:NB s
 rl:∀r∈s.2.2.2.1,r.2.2.1.length≤aH∧r.2.2.2.1.length≤aH∧r.2.2.2.2.1.length*80≤aH
 may:∀p∈s.2.2.2.2.2.1,p.2.1.length≤aH
structure TG(s:cu):Prop where
 many:s.2.2.1.length≤16
 fields:∀x∈s.2.2.1,1≤x.2.2.2.2.1.length
 ok:∀x∈s.2.2.1,∀f∈x.2.2.2.2.1,f168 (s,()) f.2.1=some true
 nI:UO s
 rules:∀r∈s.2.2.2.1,RK ((s,()),(r,()))
 self:∀x∈s.2.2.1,(nth bO x.2.2.2.2.1 (0:Int)).2.1.1=3
 uok:∀u∈s.2.1,f132 (s,()) u=some true
theorem GJ(s:cu)(h:s.2.2.2.2.2.1.length≤aH):∃r,f128 (s,())=some r∧(r=true→s.2.2.1.length≤16):=by
 have no:∀y:Zl,y=some false→∃r,y=some r∧(r=true→s.2.2.1.length≤16):=fun y hy=>⟨false,hy,fun h=>(by cases h)⟩
 unfold f128
 obtain⟨i,hi,_⟩:=acV dL f184 s.2.2.2.2.2.1 (fun p=>decide ((64:Int)<(p.2.1.length:Int))) (fun x _=>rfl) h
 have e1:vb s.2.2.2.2.2.1=some (decide ((0:Int)≤i)):=by
  unfold vb
  have:Bn s.2.2.2.2.2.1=some i:=hi
  grind
 grind
theorem Ef(s:cu)(h:s.2.1.length≤aH):∃r,vf s.2.1 (s,())=some r∧(r=true→∀u∈s.2.1,f132 (s,()) u=some true):=by
 have hp:∀x∈s.2.1,rC x (s,())=some (!((f132 (s,()) x).getD false),(s,())):=fun x _=>by
  obtain⟨r,hr⟩:=qc (s,()) x
  unfold rC
  grind
 obtain⟨i,hi,him⟩:=O4 aU rC s.2.1 (s,()) _ hp h
 have e:Bo s.2.1 (s,())=some (i,(s,())):=hi
 unfold vf Bp
 rw[e]
 refine⟨_,rfl,fun hr x hx=>?_⟩
 obtain⟨r,hr2⟩:=qc (s,()) x
 grind
theorem B5(s:cu)(hs:SW s):∃r,vj s.2.2.1 (s,())=some r∧(r=true→∀x∈s.2.2.1,(1≤x.2.2.2.2.1.length∧(nth bO x.2.2.2.2.1 (0:Int)).2.1.1=3)∧∀f∈x.2.2.2.2.1,f168 (s,()) f.2.1=some true):=by
 have hp:∀x∈s.2.2.1,rD x (s,())=some (!((f134 (s,()) x).getD false),(s,())):=fun x hx=>by
  obtain⟨r,hr,_⟩:=uh (s,()) x (hs.nb x hx).1 (hs.nb x hx).2
  unfold rD
  grind
 obtain⟨i,hi,him⟩:=O4 bF rD s.2.2.1 (s,()) _ hp hs.dp
 have e:Br s.2.2.1 (s,())=some (i,(s,())):=hi
 unfold vj Bs
 rw[e]
 refine⟨_,rfl,fun hr x hx=>?_⟩
 obtain⟨r,hr2,hm⟩:=uh (s,()) x (hs.nb x hx).1 (hs.nb x hx).2
 grind
theorem GK(s:cu)(hs:SW s)(hU:UO s):∃r,vo s.2.2.2.1 (s,())=some r∧(r=true→∀x∈s.2.2.2.1,RK ((s,()),(x,()))):=by
 have hk:=fun x(hx:x∈s.2.2.2.1)=>J0 ((s,()),(x,())) hs.nb hU (hs.rl x hx).1 (hs.rl x hx).2.1 (hs.rl x hx).2.2
 have hp:∀x∈s.2.2.2.1,rF x (s,())=some (!((f130 ((s,()),(x,()))).getD false),(s,())):=fun x hx=>by
  grind [rF,Bu]
 obtain⟨i,hi,him⟩:=O4 bG rF s.2.2.2.1 (s,()) _ hp hs.rules
 have e:Bv s.2.2.2.1 (s,())=some (i,(s,())):=hi
 unfold vo Bw
 rw[e]
 refine⟨_,rfl,fun hr x hx=>?_⟩<;>grind
theorem xO(s:cu)(hs:SW s):∃r,vq s.2.2.2.2.2.1 (s,())=some r:=by
 have hp:∀x∈s.2.2.2.2.2.1,rG x (s,())=some (!((f137 (s,()) x).getD false),(s,())):=fun x hx=>by
  obtain⟨r,hr⟩:=yn (s,()) x (hs.may x hx)
  unfold rG
  grind
 obtain⟨i,hi,_⟩:=O4 dL rG s.2.2.2.2.2.1 (s,()) _ hp hs.fh
 have e:Bx s.2.2.2.2.2.1 (s,())=some (i,(s,())):=hi
 unfold vq By
 rw[e];exact⟨_,rfl⟩
theorem zV(s:cu)(hs:SW s):∃r,f100 s=some r∧(r=0→TG s):=by
 have no:∀(y:ZU)(z:Int),z≠0→y=some z→∃r,y=some r∧(r=0→TG s):=fun y z hz hy=>⟨z,hy,fun h=>absurd h hz⟩
 unfold f100
 obtain⟨b,hb,hbm⟩:=GJ s hs.fh
 rw[hb,aM]
 cases b with
 |false=>simp_all
 |
  true=>
  rw[aC (by decide)]
  obtain⟨b1,hb1,hm1⟩:=Ef s hs.nI
  rw[hb1,aM]
  cases b1 with
  |false=>simp_all
  |
   true=>
   rw[aC (by decide)]
   obtain⟨b2,hb2,hm2⟩:=B5 s hs
   rw[hb2,aM]
   cases b2 with
   |false=>exact no _ 120 (by decide) rfl
   |
    true=>
    rw[aC (by decide)]
    have hU:UO s:=fun x hx f hf h1=>uf ((hm2 rfl x hx).2 f hf) h1
    obtain⟨b3,hb3,hm3⟩:=GK s hs hU
    rw[hb3,aM]
    cases b3 with
    |false=>exact no _ 120 (by decide) rfl
    |
     true=>
     rw[aC (by decide)]
     obtain⟨b4,hb4⟩:=xO s hs
     rw[hb4,aM,aM]
     cases b4 with
     |false=>exact no _ 120 (by decide) rfl
     |true=>exact⟨0,rfl,fun _=>⟨hbm rfl,fun x hx=>(hm2 rfl x hx).1.1,fun x hx=>(hm2 rfl x hx).2,hU,hm3 rfl,fun x hx=>(hm2 rfl x hx).1.2,hm1 rfl⟩⟩
structure SS(s:cu):Prop where
 oI:s.1.length≤aH
 nI:s.2.1.length≤aH
 dp:s.2.2.1.length≤aH
 rules:s.2.2.2.1.length≤aH
 iY:s.2.2.2.2.1.length≤aH
 fh:s.2.2.2.2.2.1.length≤aH
 fields:∀x∈s.2.2.1,x.2.2.2.2.1.length≤aH∧∀f∈x.2.2.2.2.1,(dS f.2.1).length≤aH
 B6:∀x∈s.2.2.1,x.2.2.2.2.2.1.length≤aH∧∀d∈x.2.2.2.2.2.1,d.1.length≤aH∧d.2.2.1.length≤aH
 rl:∀r∈s.2.2.2.1,r.2.2.1.length≤aH∧r.2.2.2.1.length≤aH∧r.2.2.2.2.1.length≤aH
 mv:∀c∈s.2.2.2.2.1,c.2.2.2.2.1.length≤aH
 may:∀p∈s.2.2.2.2.2.1,p.2.1.length≤aH
theorem VW(x y:ZM)(hl:y.length≤aH):∃r,f145 x y=some r:=O5 .str (fun a b=>decide (a=b)) x y fun e=>e▸hl
theorem aip(x y:Ze)(hl:y.length≤aH):∃r,f73 x y=some r:=O5 (.int .i64) (fun a b=>decide (a=b)) x y fun e=>e▸hl
theorem xP(a b:JN)(h:(dS b.2.1).length≤aH):∃r,f207 a b=some r:=by
 obtain⟨q,hq⟩:=VW (dS a.2.1) (dS b.2.1) h
 unfold f207
 grind
theorem uA(a b:xF)(h:b.1.length≤aH)(h2:b.2.2.1.length≤aH):∃r,f209 a b=some r:=by
 obtain⟨q,hq⟩:=VW a.1 b.1 h
 obtain⟨q2,hq2⟩:=aip a.2.2.1 b.2.2.1 h2
 unfold f209
 grind
theorem uB(a b:lW)(h1:b.2.2.2.2.1.length≤aH∧∀f∈b.2.2.2.2.1,(dS f.2.1).length≤aH)(h2:b.2.2.2.2.2.1.length≤aH∧∀d∈b.2.2.2.2.2.1,d.1.length≤aH∧d.2.2.1.length≤aH):∃r,f148 a b=some r:=by
 obtain⟨q,hq⟩:∃r,Ar a.2.2.2.2.1 b.2.2.2.2.1=some r:=Wt bO f207 _ _ (fun x _ y hy=>xP x y (h1.2 y hy)) fun e=>e▸h1.1
 obtain⟨q2,hq2⟩:∃r,As a.2.2.2.2.2.1 b.2.2.2.2.2.1=some r:=Wt fw f209 _ _ (fun x _ y hy=>uA x y (h2.2 y hy).1 (h2.2 y hy).2) fun e=>e▸h2.1
 unfold f148
 grind
theorem yo(a b:dr)(h:b.2.2.1.length≤aH∧b.2.2.2.1.length≤aH∧b.2.2.2.2.1.length≤aH):∃r,f150 a b=some r:=by
 obtain⟨q1,hq1⟩:∃r,f210 a.2.2.1 b.2.2.1=some r:=O5 aQ (fun x y=>bl aQ x y) _ _ fun e=>e▸h.1
 obtain⟨q2,hq2⟩:∃r,f211 a.2.2.2.1 b.2.2.2.1=some r:=O5 aV (fun x y=>bl aV x y) _ _ fun e=>e▸h.2.1
 obtain⟨q3,hq3⟩:∃r,f212 a.2.2.2.2.1 b.2.2.2.2.1=some r:=O5 bu (fun x y=>bl bu x y) _ _ fun e=>e▸h.2.2
 unfold f150
 grind
theorem tc(a b:sW)(h:b.2.2.2.2.1.length≤aH):∃r,f152 a b=some r:=by
 obtain⟨q1,hq1⟩:∃r,f213 a.2.2.2.2.1 b.2.2.2.2.1=some r:=O5 aU (fun x y=>bl aU x y) _ _ fun e=>e▸h
 unfold f152
 grind
theorem th(a b:oL)(h:b.2.1.length≤aH):∃r,f154 a b=some r:=by
 obtain⟨q1,hq1⟩:∃r,f214 a.2.1 b.2.1=some r:=O5 fa (fun x y=>bl fa x y) _ _ fun e=>e▸h
 unfold f154
 grind
theorem Eg(a s:cu)(hs:SS s):∃r,f105 a s=some r:=by
 obtain⟨q1,hq1⟩:=VW a.1 s.1 hs.oI
 obtain⟨q2,hq2⟩:∃r,f146 a.2.1 s.2.1=some r:=O5 aU (fun x y=>bl aU x y) _ _ fun e=>e▸hs.nI
 obtain⟨q3,hq3⟩:∃r,Au a.2.2.1 s.2.2.1=some r:=Wt bF f148 _ _ (fun x _ y hy=>uB x y (hs.fields y hy) (hs.B6 y hy)) fun e=>e▸hs.dp
 obtain⟨q4,hq4⟩:∃r,Bk a.2.2.2.1 s.2.2.2.1=some r:=Wt bG f150 _ _ (fun x _ y hy=>yo x y (hs.rl y hy)) fun e=>e▸hs.rules
 obtain⟨q5,hq5⟩:∃r,Bl a.2.2.2.2.1 s.2.2.2.2.1=some r:=Wt gw f152 _ _ (fun x _ y hy=>tc x y (hs.mv y hy)) fun e=>e▸hs.iY
 obtain⟨q6,hq6⟩:∃r,Bm a.2.2.2.2.2.1 s.2.2.2.2.2.1=some r:=Wt dL f154 _ _ (fun x _ y hy=>th x y (hs.may y hy)) fun e=>e▸hs.fh
 unfold f105
 grind
theorem xQ(a b:Int)(h:0≤b):∃r,f250 a b=some r:=⟨_,aA h⟩
theorem Z4(m:Int)(d:xF)(l:Ze)(hl:l.length≤aH):∀(n i:Nat)(e:Int),l.length -i<n→i≤l.length→(∃e',oC n (m,e,l,(l.length:Int),(i:Int),d)=some (.brk (m,e',d)))∨oC n (m,e,l,(l.length:Int),(i:Int),d)=some (.ret false):=by
 intro n
 have hB:=hB
 induction n with
 |zero=>grind
 |
  succ n ih=>
  intro i e hn hi
  unfold oC at ih ⊢
  rw[aN]
  generalize aL _ n=rec at ih ⊢
  dsimp only
  by_cases h:i<l.length
  ·rw[cH (by omega),eA i,aA (show(i:Int)<(l.length:Int) by omega),bk (by omega)]
   by_cases h0:nth (.int .i64) l (i:Int)<(0:Int)
   ·rw[cH h0];exact Or.inr rfl
   ·rw[aC (show¬decide (nth (.int .i64) l (i:Int)<(0:Int))=true by grind)]
    obtain⟨q,hq⟩:=xQ e (nth (.int .i64) l (i:Int)) (Int.not_lt.1 h0)
    rw[hq]
    have key:∀v:Bool,(∃e',(if v=true then(bX (some false)) else(if 0≤(nth (.int .i64) l (i:Int)) then(rec (m,iA .or .u64 e (IntKind.u64.wrap ((1:Int)*2^(min (Int.toNat (nth (.int .i64) l (i:Int))) 64))),l,(l.length:Int),((i+1:Nat):Int),d)) else none))=some (.brk (m,e',d)))∨(if v=true then(bX (some false)) else(if 0≤(nth (.int .i64) l (i:Int)) then(rec (m,iA .or .u64 e (IntKind.u64.wrap ((1:Int)*2^(min (Int.toNat (nth (.int .i64) l (i:Int))) 64))),l,(l.length:Int),((i+1:Nat):Int),d)) else none))=some (.ret false):=fun v=>by
     cases v with
     |true=>exact Or.inr rfl
     |
      false=>
      rw[aC (by decide),aA (Int.not_lt.1 h0)]
      exact ih (i+1) _ (by omega) (by omega)
    split
    ·simp_all
    ·exact key q
  grind
theorem B7(d:xF)(m:Int)(hl:d.2.2.1.length≤aH):∃r,f196 d m=some r:=by
 unfold f196
 have e:=Z4 m d d.2.2.1 hl (Int.toNat (d.2.2.1.length:Int)+1) 0 0 (by omega) (by omega)
 rcases e with⟨e',e⟩|e
 ·have h:oC (Int.toNat (d.2.2.1.length:Int)+1) (m,0,d.2.2.1,(d.2.2.1.length:Int),0,d)=some (.brk (m,e',d)):=e
  rw[h,aF]
  dsimp only
  refine ki ?_ fun v=>⟨v,rfl⟩
  by_cases h0:0≤d.2.2.2.1
  ·obtain⟨q,hq⟩:=xQ e' d.2.2.2.1 h0
   grind
  ·rw[aC (show¬decide ((0:Int)≤d.2.2.2.1)=true by grind)]
   simp_all
 ·have h:oC (Int.toNat (d.2.2.1.length:Int)+1) (m,0,d.2.2.1,(d.2.2.1.length:Int),0,d)=some (.ret false):=e
  rw[h,dB]
  grind
theorem Z5(x:lW)(l:Gt)(hl:l.length≤aH)(hd:∀d∈l,d.2.2.1.length≤aH):∀(n i:Nat),l.length -i<n→i≤l.length→∃r,aI (U:=Unit) (rH n (l,(l.length:Int),(i:Int),x)) (fun _=>some (0:Int))=some r:=by
 intro n
 have hB:=hB
 induction n with
 |zero=>grind
 |
  succ n ih=>
  intro i hn hi
  unfold rH at ih ⊢
  rw[aN]
  generalize aL _ n=rec at ih ⊢
  dsimp only
  by_cases h:i<l.length
  ·obtain⟨r,hr⟩:=B7 l[i] (x.2.2.2.2.1.length:Int) (hd _ (fU h))
   rw[cH (by omega),eA i,aA (show(i:Int)<(l.length:Int) by omega),cP (t:=fw) h,bk (by omega),hr,aM]
   cases r with
   |false=>exact⟨_,rfl⟩
   |true=>grind
  ·rw[aC (by grind)]
   exact⟨_,rfl⟩
theorem B8(x:lW)(hl:x.2.2.2.2.2.1.length≤aH)(hd:∀d∈x.2.2.2.2.2.1,d.2.2.1.length≤aH):∃r,f138 x=some r:=by
 unfold f138
 have h4:∃r,aI (U:=Unit) (rH (Int.toNat (x.2.2.2.2.2.1.length:Int)+1) (x.2.2.2.2.2.1,(x.2.2.2.2.2.1.length:Int),0,x)) (fun _=>some (0:Int))=some r:=Z5 x _ hl hd _ 0 (by omega) (by omega)
 have h2:∀v:Bool,∃r,aI (U:=lW) (if v=true then(bX (some (130:Int))) else(some (.brk x))) (fun v1=>aI (U:=Unit) (rH (Int.toNat (v1.2.2.2.2.2.1.length:Int)+1) (v1.2.2.2.2.2.1,(v1.2.2.2.2.2.1.length:Int),0,v1)) fun _=>some (0:Int))=some r:=fun v=>by
  cases v with
  |true=>exact⟨_,rfl⟩
  |false=>exact h4
 split
 ·simp_all
 ·split
  ·simp_all
  ·exact h2 _
theorem xR(s:cu)(hs:SS s):∃r,f101 s=some r:=by
 have hB:=hB
 have key:∀(n i:Nat),s.2.2.1.length -i<n→i≤s.2.2.1.length→∃r,aI (U:=Unit) (Bz n (s.2.2.1,(s.2.2.1.length:Int),(i:Int))) (fun _=>some (0:Int))=some r:=by
  intro n
  have hl:=hs.dp
  induction n with
  |zero=>grind
  |
   succ n ih=>
   intro i hn hi
   unfold Bz at ih ⊢
   rw[aN]
   generalize aL _ n=rec at ih ⊢
   dsimp only
   by_cases h:i<s.2.2.1.length
   ·have hd:=hs.B6 _ (fU h)
    obtain⟨r,hr⟩:=B8 s.2.2.1[i] hd.1 fun d hdm=>(hd.2 d hdm).2
    rw[cH (by omega),eA i,aA (show(i:Int)<(s.2.2.1.length:Int) by omega),cP (t:=bF) h,bk (by omega),hr,aM]
    split
    ·exact⟨_,rfl⟩
    grind
   ·rw[aC (by grind)]
    exact⟨_,rfl⟩
 exact key _ 0 (by omega) (by omega)
theorem J1(l:Ze)(m:Int)(hl:l.length≤1000000):∃b d,z8 l m []=some (b,d):=by
 have hB:=hB
 have key:∀(n i:Nat)(d:Zu),l.length -i<n→i≤l.length→d.length≤i→∃b d',aI (U:=Ze×Int×Zu) (pg n (l,m,l,(l.length:Int),(i:Int),d)) (fun u=>match u with|⟨a,b,c⟩=>some (decide ((a.length:Int)=b),c))=some (b,d'):=by
  intro n
  induction n with
  |zero=>grind
  |
   succ n ih=>
   intro i d hn hi hd
   unfold pg at ih ⊢
   rw[aN]
   generalize aL _ n=rec at ih ⊢
   dsimp only
   by_cases h:i<l.length
   ·rw[cH (by omega),eA i,aA (show(i:Int)<(l.length:Int) by omega)]
    split
    ·exact⟨_,_,rfl⟩
    ·rw[aA (by omega),bk (by omega)]
     exact ih (i+1) _ (by omega) (by omega) (dh (dw (kt:=.int .i64)) (by omega))
   ·rw[aC (by grind)]
    exact⟨_,_,rfl⟩
 exact key _ 0 [] (by omega) (by omega) (by simp)
theorem xL.len{s:cu}{l:Ze}(h:xL s l):l.length≤s.2.2.1.length:=gx _ l h.jf fun x hx=>(h.all x).1 hx
theorem TG.sb{s:cu}(h:TG s)(hs:SW s):SB s:=⟨by have:=h.many;omega,hs.rules,fun r hr=>(hs.rl r hr).1⟩
theorem J2(s:cu)(hs:SW s):∃r,f139 s=some r∧(r=0→TG s):=by
 unfold f139
 obtain⟨r,hr,hm⟩:=zV s hs
 rw[hr,aM]
 by_cases h:r=0
 ·rw[aC (by simp[h])]
  have hT:=hm h
  obtain⟨l,ok,e,ho,_⟩:=Ee (hT.sb hs)
  grind
 grind
theorem GL(s:cu)(hs:SW s):∃r,f102 s=some r∧(r=0→TG s∧∃l,f104 s=some (l,true,0)∧xL s l):=by
 unfold f102
 obtain⟨r,hr,hm⟩:=J2 s hs
 rw[hr,aM]
 by_cases h:r=0
 ·rw[aC (by simp[h])]
  have hT:=hm h
  obtain⟨l,ok,e,ho,hk⟩:=Ee (hT.sb hs)
  rw[ho,aM]
  dsimp only
  by_cases he:e=0
  ·subst he
   rw[aC (by decide)]
   cases ok with
   |false=>grind
   |
    true=>
    rw[aC (by decide)]
    have hR:=hk rfl rfl fun r hr=>⟨(hT.rules r hr).h0,(hT.rules r hr).h1⟩
    obtain⟨b,d,hw⟩:=J1 l (s.2.2.1.length:Int) (by have:=hR.len;have:=hT.many;omega)
    grind
  grind
 grind
theorem tj(s:cu)(hN:NB s)(a b v:Int):∃r,f122 s a b v=some r:=by
 unfold f122
 rcases la (s,()) a b with⟨hi,e⟩|⟨_,y,e⟩
 ·rw[e,aM]
  dsimp only
  rw[aA rfl]
  have hm:=hi.mem
  obtain⟨q,hq⟩:=qb (s,()) (nth bO (cz s a) b).2.1 ((hN _ hm.1).2 _ hm.2)
  grind
 simp_all
theorem zW(s:cu)(hN:NB s)(a:Int):∃r,f197 s a=some r∧(r=true→0≤a∧a<(s.2.2.1.length:Int)):=by
 have hB:=hB
 have no:∀y:Zl,y=some false→∃r,y=some r∧(r=true→0≤a∧a<(s.2.2.1.length:Int)):=fun y hy=>⟨false,hy,fun h=>(by cases h)⟩
 unfold f197
 by_cases h0:a<0
 ·rw[cH h0];exact no _ rfl
 ·rw[aC (show¬decide (a<(0:Int))=true by grind)]
  by_cases h1:(s.2.2.1.length:Int)≤a
  ·rw[cQ h1];exact no _ rfl
  ·rw[dE h1,aM,aC (by decide),aF]
   dsimp only
   rw[aA (Int.not_lt.1 h0),aA (Int.not_le.1 h1)]
   have yes:∀y:Zl,(∃z,y=some z)→∃z,y=some z∧(z=true→0≤a∧a<(s.2.2.1.length:Int)):=fun y ⟨z,hz⟩=>⟨z,hz,fun _=>⟨Int.not_lt.1 h0,Int.not_le.1 h1⟩⟩
   apply yes
   have hl:=(hN _ (dc (t:=bF) (l:=s.2.2.1) (a:=a) (Int.not_lt.1 h0) (Int.not_le.1 h1))).1
   generalize (nth bF s.2.2.1 a).2.2.2.2.1=l at hl ⊢
   have key:∀(n i:Nat),l.length -i<n→i≤l.length→nJ n (a,l,l,(l.length:Int),(i:Int),s)=some (.brk l)∨nJ n (a,l,l,(l.length:Int),(i:Int),s)=some (.ret false):=by
    intro n
    induction n with
    |zero=>grind
    |
     succ n ih=>
     intro i hn hi
     unfold nJ at ih ⊢
     rw[aN]
     generalize aL _ n=rec at ih ⊢
     dsimp only
     by_cases h:i<l.length
     ·rw[cH (by omega),eA i,aA (show(i:Int)<(l.length:Int) by omega),bk (by omega)]
      obtain⟨q,hq⟩:=tj s hN a (i:Int) (nth bO l (i:Int)).2.1.2.1
      rw[hq,aM]
      cases q with
      |false=>exact Or.inr rfl
      |true=>grind
     grind
   have e:=key (Int.toNat (l.length:Int)+1) 0 (by omega) (by omega)
   rcases e with e|e
   ·have e':nJ (Int.toNat (l.length:Int)+1) (a,l,l,(l.length:Int),0,s)=some (.brk l):=e
    rw[e',aF]
    refine ki ?_ fun v=>⟨v,rfl⟩
    by_cases hp:(0:Int)<(l.length:Int)<;>simp_all
   ·have e':nJ (Int.toNat (l.length:Int)+1) (a,l,l,(l.length:Int),0,s)=some (.ret false):=e
    rw[e',dB];grind
theorem Nr(a b:dG)(n:Int):∃r,f198 a b n=some r:=by
 unfold f198
 by_cases h1:a.1=b.1
 ·rw[aC (by simp[h1])]
  by_cases e1:a.1=1
  ·rw[cH e1,aM,aA rfl]
   repeat' (first|exact⟨_,rfl⟩|split)
  ·rw[aC (show¬decide (a.1=(1:Int))=true by grind)]
   by_cases e2:a.1=2
   ·rw[cQ e2,aM,aA rfl]
    repeat' (first|exact⟨_,rfl⟩|split)
   ·rw[dE e2,aM,aC (by decide),aF]
    dsimp only
    refine ki ?_ fun v=>⟨v,rfl⟩
    repeat' (first|exact⟨_,rfl⟩|split)
 simp_all
theorem Z6(l m:ZH)(k:Zw)(hk:k.length≤aH):∀(n i:Nat)(N O:List Bool),k.length -i<n→i≤k.length→N.length=l.length→O.length=m.length→
 ∃r,aI (U:=Unit) (qe n (l,m,k,(k.length:Int),(i:Int),N,O)) (fun _=>some true)=some r:=by
 intro n
 have hB:=hB
 induction n with
 |zero=>grind
 |
  succ n ih=>
  intro i N O hn hi hN hO
  unfold qe at ih ⊢
  rw[aN]
  generalize aL _ n=rec at ih ⊢
  dsimp only
  by_cases h:i<k.length
  ·rw[cH (by
    omega),eA i,aA (show(i:Int)<(k.length:Int) by omega)]
   generalize nth aU k (i:Int)=mv
   by_cases h1:mv.2.2.2.1<(1:Int)
   ·rw[cH h1];exact⟨_,rfl⟩
   ·rw[aC (show¬decide (mv.2.2.2.1<(1:Int))=true by grind)]
    by_cases h2:(l.length:Int)≤mv.2.2.2.1
    ·rw[cH h2];exact⟨_,rfl⟩
    ·rw[aC (show¬decide ((l.length:Int)≤mv.2.2.2.1)=true by grind)]
     by_cases h3:mv.2.2.1<(1:Int)
     ·rw[cH h3];exact⟨_,rfl⟩
     ·rw[aC (show¬decide (mv.2.2.1<(1:Int))=true by grind)]
      by_cases h4:(m.length:Int)≤mv.2.2.1
      ·rw[cH h4];exact⟨_,rfl⟩
      ·rw[aC (show¬decide ((m.length:Int)≤mv.2.2.1)=true by grind)]
       have p0:(0:Int)≤mv.2.2.2.1:=Int.le_trans (by decide) (Int.not_lt.1 h1)
       have p1:mv.2.2.2.1<(l.length:Int):=Int.not_le.1 h2
       have q0:(0:Int)≤mv.2.2.1:=Int.le_trans (by decide) (Int.not_lt.1 h3)
       have q1:mv.2.2.1<(m.length:Int):=Int.not_le.1 h4
       have p2:mv.2.2.2.1<(N.length:Int):=by grind
       have q2:mv.2.2.1<(O.length:Int):=by grind
       rw[aA p0,aA p2]
       have key:∀v:Bool,∃r,aI (U:=Unit) (aI (U:=ZH×ZH×Zw×Int×Int×gQ×List Bool×List Bool) (if v=true then(bX (bX (some false))) else(some (.brk (l,m,k,(k.length:Int),(i:Int),mv,N,O)))) fun u=>match u with|⟨d,e,f,g,h,a,b,c⟩=>if 0≤a.2.2.2.1 then(if a.2.2.2.1<(b.length:Int) then(if 0≤a.2.2.1 then(if a.2.2.1<(c.length:Int) then(if 0≤a.2.2.2.1 then(if a.2.2.2.1<(d.length:Int) then(if 0≤a.2.2.1 then(if a.2.2.1<(e.length:Int) then((f198 (((nth bO d a.2.2.2.1).2).1) (((nth bO e a.2.2.1).2).1) a.2.2.2.2.1).bind fun y12=>if !y12 then(bX (some false)) else(rec (d,e,f,g,bp (h+(1:Int)),List.set b (Int.toNat a.2.2.2.1) true,List.set c (Int.toNat a.2.2.1) true))) else none) else none) else none) else none) else none) else none) else none) else none) (fun _=>some true)=some r:=fun v=>by
        cases v with
        |true=>exact⟨_,rfl⟩
        |
         false=>
         rw[aC (by decide),aF]
         dsimp only
         rw[aA p0,aA p2,aA q0,aA q2,aA p0,aA p1,aA q0,aA q1]
         obtain⟨z,hz⟩:=Nr ((nth bO l mv.2.2.2.1).2).1 ((nth bO m mv.2.2.1).2).1 mv.2.2.2.2.1
         rw[hz,aM]
         cases z with
         |false=>exact⟨_,rfl⟩
         |
          true=>
          rw[aC (by decide),bk (by omega)]
          grind [ji]
       split
       ·exact key true
       ·exact key _
  ·rw[aC (by grind)]
   trivial
theorem GM(s:cu)(hN:NB s)(c:sW)(hc:c.2.2.2.2.1.length≤aH):∃r,f141 s c=some r:=by
 have hB:=hB
 unfold f141
 by_cases h0:c.2.2.1=c.2.2.2.1
 ·rw[cH h0];exact⟨_,rfl⟩
 ·rw[aC (show¬decide (c.2.2.1=c.2.2.2.1)=true by grind)]
  obtain⟨r1,e1,m1⟩:=zW s hN c.2.2.1
  rw[e1,aM]
  cases r1 with
  |false=>exact⟨_,rfl⟩
  |
   true=>
   rw[aC (by decide)]
   obtain⟨r2,e2,m2⟩:=zW s hN c.2.2.2.1
   rw[e2,aM,aM]
   cases r2 with
   |false=>exact⟨_,rfl⟩
   |
    true=>
    rw[aC (by decide),aF]
    dsimp only
    have a1:=m1 rfl
    have a2:=m2 rfl
    rw[aA a1.1,aA a1.2,aA a2.1,aA a2.2]
    have l1:=(hN _ (dc (t:=bF) (l:=s.2.2.1) a1.1 a1.2)).1
    have l2:=(hN _ (dc (t:=bF) (l:=s.2.2.1) a2.1 a2.2)).1
    generalize (nth bF s.2.2.1 c.2.2.1).2.2.2.2.1=l at l1 ⊢
    generalize (nth bF s.2.2.1 c.2.2.2.1).2.2.2.2.1=m at l2 ⊢
    have h8:∃r,aI (U:=Unit) (qe (Int.toNat (c.2.2.2.2.1.length:Int)+1) (l,m,c.2.2.2.2.1,(c.2.2.2.2.1.length:Int),0,List.replicate (Int.toNat (l.length:Int)) false,List.replicate (Int.toNat (m.length:Int)) false)) (fun _=>some true)=some r:=
     Z6 l m c.2.2.2.2.1 hc _ 0 _ _ (by omega) (by omega) (by grind) (by grind)
    have key:∀v:Bool,∃r,aI (U:=ZH×ZH×sW) (if v=true then(bX (some false)) else(some (.brk (l,m,c)))) (fun u=>match u with|⟨c,d,e⟩=>if 0≤(c.length:Int) then(if(c.length:Int)≤(c.length:Int) then(if(c.length:Int)*(1:Int)≤(aH:Int) then(if 0≤(d.length:Int) then(if(d.length:Int)≤(d.length:Int) then(if(d.length:Int)*(1:Int)≤(aH:Int) then(aI (U:=Unit) (qe (Int.toNat (e.2.2.2.2.1.length:Int)+1) (c,d,e.2.2.2.2.1,(e.2.2.2.2.1.length:Int),0,List.replicate (Int.toNat (c.length:Int)) false,List.replicate (Int.toNat (d.length:Int)) false)) fun _=>some true) else none) else none) else none) else none) else none) else none)=some r:=fun v=>by
     cases v with
     |true=>exact⟨_,rfl⟩
     |
      false=>
      rw[aC (by decide),aF]
      grind
    split
    ·simp_all
    ·exact key _
theorem GN(s:cu)(hN:NB s)(hs:SS s):∃r,f103 s=some r:=by
 have hB:=hB
 have hl:=hs.iY
 have key:∀(n i:Nat),s.2.2.2.2.1.length -i<n→i≤s.2.2.2.2.1.length→∃r,aI (U:=Unit) (Aa n (s.2.2.2.2.1,(s.2.2.2.2.1.length:Int),(i:Int),s)) (fun _=>some (0:Int))=some r:=by
  intro n
  induction n with
  |zero=>grind
  |
   succ n ih=>
   intro i hn hi
   unfold Aa at ih ⊢
   rw[aN]
   generalize aL _ n=rec at ih ⊢
   dsimp only
   by_cases h:i<s.2.2.2.2.1.length
   ·obtain⟨r,hr⟩:=GM s hN s.2.2.2.2.1[i] (hs.mv _ (fU h))
    rw[cH (by omega),eA i,aA (show(i:Int)<(s.2.2.2.2.1.length:Int) by omega),cP (t:=gw) h,bk (by omega),hr,aM]
    cases r with
    |false=>exact⟨_,rfl⟩
    |true=>grind
   ·rw[aC (by grind)]
    exact⟨_,rfl⟩
 exact key _ 0 (by omega) (by omega)
theorem J3(l:ZM)(hl:l.length≤aH):∃M b,VR l.length M∧BE l=some (some M,b):=kL .str f223 (fun x=>x) (fun _=>rfl) l hl
theorem GO(l:Zw)(hl:l.length≤aH):∃M b,VR l.length M∧BF l=some (some M,b):=kL aU f225 (fun x=>x.1) (fun _=>rfl) l hl
theorem B9(l:ZG)(hl:l.length≤aH):∃M b,VR l.length M∧BG l=some (some M,b):=kL bF f227 (fun x=>x.1) (fun _=>rfl) l hl
theorem yp(l:ZE)(hl:l.length≤aH):∃M b,VR l.length M∧BH l=some (some M,b):=kL dL f229 (fun x=>x.1) (fun _=>rfl) l hl
theorem Eh(l:ZH)(hl:l.length≤aH):∃M b,VR l.length M∧BI l=some (some M,b):=kL bO f231 (fun x=>x.1) (fun _=>rfl) l hl
theorem GP(l:Zy)(hl:l.length≤aH):∃M b,VR l.length M∧BJ l=some (some M,b):=kL aQ f233 (fun x=>x.1) (fun _=>rfl) l hl
theorem find_eq{n:Nat}(m:Za)(h:VR n (aX m))(k:Zi):f234 m k=some (.inl ((),()))∨∃x,f234 m k=some (.inr x)∧0≤x∧x<(n:Int):=by
 unfold f234
 cases hk:bT .str k (aX m) with
 |false=>grind
 |true=>exact Or.inr ⟨_,aC (by decide),h.get hk⟩
abbrev OM:=Za
theorem VX(s:cu)(i u m:OM)(l:ZG)(hl:l.length*96≤aH)(hf:∀x∈l,x.2.2.2.2.1.length≤aH):∀(n c:Nat)(g:Bool)(f:List OM),l.length -c<n→c≤l.length→f.length=c→(∀j(hj:j<f.length)(hj':j<l.length),VR l[j].2.2.2.2.1.length (aX f[j]))→
 ∃g' f',kc n (g,l,(l.length:Int),(c:Int),s,i,u,m,f)=some (.brk (g',s,i,u,m,f'))∧f'.length=l.length∧∀j(hj:j<f'.length)(hj':j<l.length),VR l[j].2.2.2.2.1.length (aX f'[j]):=by
 intro n
 have hB:=hB
 induction n with
 |zero=>grind
 |
  succ n ih=>
  intro c g f hn hc hfl hv
  unfold kc at ih ⊢
  rw[aN]
  generalize aL _ n=rec at ih ⊢
  dsimp only
  by_cases h:c<l.length
  ·obtain⟨M,b,hM,e⟩:=Eh l[c].2.2.2.2.1 (hf _ (fU h))
   rw[cH (by omega),eA c,aA (show(c:Int)<(l.length:Int) by omega),cP (t:=bF) h,e,aM]
   dsimp only
   rw[aA (show(f.length+List.length [_])*8≤aH by grind),bk (by omega)]
   have key:∀v:Bool,∃g' f',rec (v,l,(l.length:Int),((c+1:Nat):Int),s,i,u,m,f++[some M])=some (.brk (g',s,i,u,m,f'))∧f'.length=l.length∧∀j(hj:j<f'.length)(hj':j<l.length),VR l[j].2.2.2.2.1.length (aX f'[j]):=fun v=>
    ih (
     c+1) v _ (by omega) (by omega) (by grind) fun j hj hj'=>by
     by_cases ej:j<f.length
     ·grind
     ·have:j=c:=by grind
      subst this
      rw[List.getElem_append_right (by omega)]
      simp only[hfl,Nat.sub_self,List.getElem_singleton]
      exact hM
   split
   ·simp_all
   ·rw[aM];exact key b
  ·rw[aC (by grind)]
   grind
theorem VY(i u m:OM)(fs:List OM)(l:Zp)(hl:l.length≤aH)(hf:∀x∈l,x.2.2.1.length≤aH):∀(n c:Nat)(g:Bool),l.length -c<n→c≤l.length→
 ∃g',kf n (g,l,(l.length:Int),(c:Int),i,u,m,fs)=some (.brk (g',i,u,m,fs)):=by
 intro n
 have hB:=hB
 induction n with
 |zero=>grind
 |
  succ n ih=>
  intro c g hn hc
  unfold kf at ih ⊢
  rw[aN]
  generalize aL _ n=rec at ih ⊢
  dsimp only
  by_cases h:c<l.length
  ·obtain⟨M,b,_,e⟩:=GP l[c].2.2.1 (hf _ (fU h))
   rw[cH (by omega),eA c,aA (show(c:Int)<(l.length:Int) by omega),cP (t:=bG) h,e,aM]
   dsimp only
   rw[bk (by omega)]
   split
   ·rw[aM];exact ih (c+1) true (by omega) (by omega)
   ·rw[aM];exact ih (c+1) b (by omega) (by omega)
  simp_all[aC]
theorem J4(s:cu)(hs:SS s)(h96:s.2.2.1.length*96≤aH):∃tw i u m fs,vr s=some (tw,i,u,m,fs)∧VR s.1.length (aX i)∧VR s.2.1.length (aX u)∧VR s.2.2.1.length (aX m)∧fs.length=s.2.2.1.length∧∀j(hj:j<fs.length)(hj':j<s.2.2.1.length),VR s.2.2.1[j].2.2.2.2.1.length (aX fs[j]):=by
 have hB:=hB
 obtain⟨M1,b1,v1,e1⟩:=J3 s.1 hs.oI
 obtain⟨M2,b2,v2,e2⟩:=GO s.2.1 hs.nI
 obtain⟨M3,b3,v3,e3⟩:=B9 s.2.2.1 hs.dp
 obtain⟨M4,b4,_,e4⟩:=yp s.2.2.2.2.2.1 hs.fh
 unfold vr
 rw[e1,aM]
 dsimp only
 rw[e2,aM]
 dsimp only
 have orT:∀(a b:Bool)(K:Bool→Option (Bool×OM×OM×OM×List OM))(P:Option (Bool×OM×OM×OM×List OM)→Prop),(∀v,P (K v))→P (Option.bind (α:=Bool) (if a=true then(some true) else(some b)) K):=fun a b K P h=>by
  grind
 refine orT _ _ _ (fun y=>∃tw i u m fs,y=some (tw,i,u,m,fs)∧VR s.1.length (aX i)∧VR s.2.1.length (aX u)∧VR s.2.2.1.length (aX m)∧fs.length=s.2.2.1.length∧∀j(hj:j<fs.length)(hj':j<s.2.2.1.length),VR s.2.2.1[j].2.2.2.2.1.length (aX fs[j])) fun w1=>?_
 rw[e3,aM]
 dsimp only
 refine orT _ _ _ (fun y=>∃tw i u m fs,y=some (tw,i,u,m,fs)∧VR s.1.length (aX i)∧VR s.2.1.length (aX u)∧VR s.2.2.1.length (aX m)∧fs.length=s.2.2.1.length∧∀j(hj:j<fs.length)(hj':j<s.2.2.1.length),VR s.2.2.1[j].2.2.2.2.1.length (aX fs[j])) fun w2=>?_
 rw[e4,aM]
 dsimp only
 refine orT _ _ _ (fun y=>∃tw i u m fs,y=some (tw,i,u,m,fs)∧VR s.1.length (aX i)∧VR s.2.1.length (aX u)∧VR s.2.2.1.length (aX m)∧fs.length=s.2.2.1.length∧∀j(hj:j<fs.length)(hj':j<s.2.2.1.length),VR s.2.2.1[j].2.2.2.2.1.length (aX fs[j])) fun w3=>?_
 obtain⟨g',f',e11,hl,hv⟩:=VX s (some M1) (some M2) (some M3) s.2.2.1 h96 (fun x hx=>(hs.fields x hx).1) (Int.toNat (s.2.2.1.length:Int)+1) 0 w3 [] (by omega) (by omega) rfl (fun j hj=>by grind)
 have e11':kc (Int.toNat (s.2.2.1.length:Int)+1) (w3,s.2.2.1,(s.2.2.1.length:Int),0,s,some M1,some M2,some M3,([]:List OM))=some (.brk (g',s,some M1,some M2,some M3,f')):=e11
 rw[e11',aF]
 dsimp only
 obtain⟨g2,e18⟩:=VY (some M1) (some M2) (some M3) f' s.2.2.2.1 hs.rules (fun x hx=>(hs.rl x hx).1) (Int.toNat (s.2.2.2.1.length:Int)+1) 0 g' (by omega) (by omega)
 have e18':kf (Int.toNat (s.2.2.2.1.length:Int)+1) (g',s.2.2.2.1,(s.2.2.2.1.length:Int),0,some M1,some M2,some M3,f')=some (.brk (g2,some M1,some M2,some M3,f')):=e18
 rw[e18',aF]
 exact⟨g2,some M1,some M2,some M3,f',rfl,v1,v2,v3,hl,hv⟩
theorem pd{n:Nat}{m:OM}(h:VR n (aX m)){k:Zi}{R:Type}{kp:Unit×Unit→Option R}{kn:Int→Option R}{P:R→Prop}(h1:W (kp ((),())) P)(h2:∀x,0≤x→x<(n:Int)→W (kn x) P):W (fc (f234 m k) kp kn) P:=by
 rcases find_eq m h k with e|⟨x,e,h0,hx⟩
 ·rw[e];exact h1
 ·rw[e];exact h2 x h0 hx
theorem mn(m:OM){k:Zi}{R:Type}{kp:Unit×Unit→Option R}{kn:Int→Option R}{P:R→Prop}(h1:W (kp ((),())) P)(h2:∀x,W (kn x) P):W (fc (f234 m k) kp kn) P:=by
 unfold f234
 cases bT .str k (aX m) with
 |false=>exact h1
 |true=>exact h2 _
theorem J5(i u m:OM)(l:Zw)(fs:List OM)(hl:l.length≤aH)(hv:VR l.length (aX u)):W (vu i u m l fs) (ST (fun _=>True) fun r=>∃l',r=(i,u,m,l',fs)):=by
 have hB:=hB
 unfold vu
 refine bK.2 (W.ct (bW (L:=xD) rfl (CT (fun d=>∃l',d=(i,u,m,l',fs)) fun r=>r= .inl ((),())) l.length (fun c(s:Zw)=>((l.length:Int),(c:Int),i,u,m,s,fs)) (fun _ s=>s.length=l.length) ?step ?stop _ 0 l (by omega) (by omega) rfl) (fun d ⟨l',h⟩=>?_) fun r h=>?_)
 case step=>
  intro rec c s hc hI k
  dsimp only
  rw[cH (by omega),eA c,aA (show(c:Int)<(s.length:Int) by omega),bk (by omega)]
  split
  ·grind
  ·refine pd hv ⟨_,rfl,rfl⟩ fun x h0 h1=>?_
   by_cases h:(c:Int)≤x
   ·rw[cH h];exact⟨_,rfl,rfl⟩
   ·rw[aC (show¬decide ((c:Int)≤x)=true by grind),aF]
    dsimp only
    rw[aA h0,aA (show x<(s.length:Int) by omega)]
    generalize hL:List.set _ _ _=L
    have hL':L.length=l.length:=by grind
    clear hL
    rw[aF]
    dsimp only
    have hx:x<(L.length:Int):=by omega
    rw[aA h0,aA hx]
    refine W.bt ?_ fun v=>?_
    ·repeat' (first|exact⟨_,rfl⟩|split)
    grind [bk]
 case stop=>
  intro rec s hI
  dsimp only
  rw[aC (by grind)]
  exact⟨_,rfl,s,rfl⟩
 ·subst h;exact⟨_,rfl,l',rfl⟩
 ·subst h;trivial
def VZ(x:lW):Prop:=x.2.2.2.2.1.length*120≤aH∧x.2.2.2.2.2.1.length*72≤aH∧∀d∈x.2.2.2.2.2.1,d.1.length*16≤aH
theorem GQ(t i u m:OM)(l:ZG)(k:Nat)(a:lW)(fs:List OM)(hb:VZ a):W (vw t i u m l k a fs) (ST (fun _=>True) fun r=>∃x1 x2 x3 x4 x5 x6 x7,r=(i,u,m,l,k,x1,x2,x3,x4,x5,fs,x6,x7)):=by
 have hB:=hB
 unfold vw
 refine mn i ⟨_,rfl,trivial⟩ fun y1=>?_
 have e1:BR a.2.2.2.2.1=some a.2.2.2.2.1:=iE _ _ hb.1
 rw[e1,aM]
 have l1:a.2.2.2.2.1.length≤aH:=by have:=hb.1;omega
 refine bK.2 (W.ct (bW (L:=xE) rfl (CT (fun d=>∃s',d=(t,i,u,m,l,k,a.1,a.2.1,y1,a.2.2.2.1,a.2.2.2.2.2,fs,s')) fun r=>r= .inl ((),())) a.2.2.2.2.1.length (fun c(s:ZH)=>(t,(a.2.2.2.2.1.length:Int),(c:Int),i,u,m,l,k,a.1,a.2.1,y1,a.2.2.2.1,a.2.2.2.2.2,fs,s)) (fun _ s=>s.length=a.2.2.2.2.1.length) ?step ?stop _ 0 a.2.2.2.2.1 (by omega) (by omega) rfl) (fun d ⟨s',h⟩=>?_) fun r h=>?_)
 case step=>
  intro rec c s hc hI kk
  dsimp only
  have hw:=nU c (by omega)
  rw[cH (by omega),eA c,aA (show(c:Int)<(s.length:Int) by omega)]
  generalize hL:List.set _ _ _=L
  have hL':L.length=a.2.2.2.2.1.length:=by grind
  clear hL
  rw[aF]
  dsimp only
  refine W.bt ?_ fun v=>?_
  ·split<;>exact⟨_,rfl⟩
  ·split
   ·exact mn u ⟨_,rfl,rfl⟩ fun x=>(by grind)
   grind
 case stop=>
  intro rec s hI
  dsimp only
  rw[aC (by grind)]
  exact⟨_,rfl,s,rfl⟩
 ·subst h
  dsimp only
  have e2:BT a.2.2.2.2.2.1=some a.2.2.2.2.2.1:=iE _ _ hb.2.1
  rw[e2,aM]
  have l2:a.2.2.2.2.2.1.length≤aH:=by have:=hb.2.1;omega
  refine bK.2 (W.ct (bW (L:=uc) rfl (CT (fun d=>∃z,d=(i,u,m,l,k,a.1,a.2.1,y1,a.2.2.2.1,a.2.2.2.2.2.2,fs,s',z)) fun r=>r= .inl ((),())) a.2.2.2.2.2.1.length (fun c(s:Gt)=>(t,(a.2.2.2.2.2.1.length:Int),(c:Int),i,u,m,l,k,a.1,a.2.1,y1,a.2.2.2.1,a.2.2.2.2.2.2,fs,s',s)) (fun _ s=>s.length=a.2.2.2.2.2.1.length∧∀d∈s,d.1.length*16≤aH) ?step ?stop _ 0 a.2.2.2.2.2.1 (by omega) (by omega) ⟨rfl,hb.2.2⟩) (fun d ⟨z,h⟩=>?_) fun r h=>?_)
  case step=>
   intro rec c s hc hI kk
   dsimp only
   have hcs:(c:Int)<(s.length:Int):=by grind
   have hn:(nth fw s (c:Int)).1.length*16≤aH:=hI.2 _ (dc (t:=fw) (dH c) hcs)
   have hw:=nU c (by omega)
   rw[cH (by omega),eA c,aA hcs]
   generalize nth fw s (c:Int)=w at hn ⊢
   refine bK.2 (bK.2 (W.ct (bW (L:=ub) rfl (CT (fun d=>∃e,d=(t,(a.2.2.2.2.2.1.length:Int),(c:Int),i,u,m,l,k,a.1,a.2.1,y1,a.2.2.2.1,a.2.2.2.2.2.2,fs,s',s,Int.toNat (c:Int),w.1,w.2.1,w.2.2.2,e)) fun r=>r= .ret (.ret (.inl ((),())))) w.1.length (fun j(e:Ze)=>(t,(a.2.2.2.2.2.1.length:Int),(c:Int),w.1,(w.1.length:Int),(j:Int),i,u,m,l,k,a.1,a.2.1,y1,a.2.2.2.1,a.2.2.2.2.2.2,fs,s',s,Int.toNat (c:Int),w.1,w.2.1,w.2.2.2,e)) (fun j e=>e.length=j) ?step2 ?stop2 _ 0 [] (by omega) (by omega) rfl) (fun d ⟨e,h⟩=>?_) fun r h=>?_))
   case step2=>
    intro rec2 j e hj hI2 kk2
    dsimp only
    have hw2:=nU j (by omega)
    rw[cH (by omega),eA j,aA (show(j:Int)<(w.1.length:Int) by omega)]
    refine mn t ⟨_,rfl,rfl⟩ fun x=>?_
    rw[aA (show(e.length+List.length [_])*8≤aH by rw[kD];omega)]
    simp_all
   case stop2=>
    intro rec2 e hI2
    dsimp only
    rw[aC (by grind)]
    exact⟨_,rfl,e,rfl⟩
   ·subst h
    dsimp only
    refine mn t ⟨_,rfl,rfl⟩ fun x=>⟨_,rfl,?_⟩
    rw[iD]
    grind
   ·subst h;exact rfl
  case stop=>
   intro rec s hI
   dsimp only
   rw[aC (by grind)]
   exact⟨_,rfl,s,rfl⟩
  ·subst h
   exact⟨_,rfl,_,_,_,_,_,_,_,rfl⟩
  ·subst h;trivial
 ·subst h;trivial
def Sc(l:Zy):Ze:=l.map fun x=>x.2.2.1
theorem Ca(l:Zy):(Sc l).length=l.length:=jC ..
theorem GR(l:Zy)(i:Nat)(v:BW)(h:v.2.2.1=(l.getD i (Ty.aD aQ)).2.2.1):Sc (l.set i v)=Sc l:=by
 unfold Sc
 grind [List.ext_getElem,jC]
def VS(n K:Nat)(s:Ze):Prop:=n≤s.length∧∀j(h:j<s.length),j<n→0≤s[j]∧s[j]<(K:Int)
variable{K:Nat}
theorem VS.at'{n:Nat}{l:Zy}(h:VS n K (Sc l)){x:Int}(h0:0≤x)(h1:x<(n:Int)):x<(l.length:Int)∧0≤(nth aQ l x).2.2.1∧(nth aQ l x).2.2.1<(K:Int):=by
 have hn:=h.1
 rw[Ca] at hn
 have e:x=(x.toNat:Int):=by omega
 have hx:x.toNat<l.length:=by omega
 have hs:=h.2 x.toNat (by rw[Ca];exact hx) (by omega)
 rw[e,cP (t:=aQ) hx]
 grind [Sc]
theorem V0(a0:Nat)(a1:Zy)(a2:Zq)(i u m:OM)(a6:Zp)(a7:Nat)(a8:Zi)(a9:Int)(a10:ZB×ZC×Unit)(fs:List OM)(n:Nat)(h0:a0<a1.length)(hv:VR n a2)(hs:VS n fs.length (Sc a1)):
 W (vz a0 a1 a2 i u m a6 a7 a8 a9 a10 fs) (ST (fun _=>True) fun r=>∃a1',r=(a1',a2,i,u,m,a6,a7,a8,a9,a10,fs)∧Sc a1'=Sc a1):=by
 unfold vz
 generalize hL:List.set (List.set a1 _ _) _ _=L
 have hL':Sc L=Sc a1:=by
  grind [GR]
 have hLl:a0<L.length:=by grind
 clear hL
 rw[aF]
 dsimp only
 split
 ·refine bK.2 (pd (m:=some a2) hv ⟨_,rfl,trivial⟩ fun x hx0 hx1=>⟨_,rfl,?_⟩)
  rw[iD]
  generalize hM:List.set _ _ _=M
  have hg:(List.getD M a0 (Ty.aD aQ)).2.2.2.1.2.2.1=x:=by grind
  have hM':Sc M=Sc a1:=by grind [GR]
  clear hM
  dsimp only
  rw[←hM'] at hs
  obtain⟨q1,q2,q3⟩:=hs.at' hx0 hx1
  rw[hg,aA hx0,aA q1,aA q2,aA q3]
  refine mn _ ⟨_,rfl,trivial⟩ fun y=>⟨_,rfl,_,rfl,?_⟩
  rw[GR _ _ _ (by rfl)];exact hM'
 ·exact⟨_,rfl,_,rfl,hL'⟩
theorem V1(a0:Nat)(a1:ZB)(a2:Zq)(i u m:OM)(a6:Zp)(a7:Nat)(a8:Zi)(a9:Int)(a10:ZC×Unit)(fs:List OM)(a12:Zy)(n:Nat)(h0:a0<a1.length)(hv:VR n a2)(hs:VS n fs.length (Sc a12)):
 W (vA a0 a1 a2 i u m a6 a7 a8 a9 a10 fs a12) (ST (fun _=>True) fun r=>∃a1',r=(a1',a2,i,u,m,a6,a7,a8,a9,a10,fs,a12)∧a1'.length=a1.length):=by
 unfold vA
 generalize hL:List.set (List.set a1 _ _) _ _=L
 have hL':L.length=a1.length:=by grind
 clear hL
 rw[aF]
 dsimp only
 split
 ·refine bK.2 (pd (m:=some a2) hv ⟨_,rfl,trivial⟩ fun x hx0 hx1=>⟨_,rfl,?_⟩)
  rw[iD]
  generalize hM:List.set _ _ _=M
  have hg:(List.getD M a0 (Ty.aD aV)).2.1.2.2.1=x:=by grind
  have hM':M.length=a1.length:=by grind
  clear hM
  dsimp only
  obtain⟨q1,q2,q3⟩:=hs.at' hx0 hx1
  rw[hg,aA hx0,aA q1,aA q2,aA q3]
  refine mn _ ⟨_,rfl,trivial⟩ fun y=>⟨_,rfl,_,rfl,?_⟩<;>grind
 ·exact⟨_,rfl,_,rfl,hL'⟩
theorem V2(a0:Nat)(a1:ZB)(a2:Zq)(i u m:OM)(a6:Zp)(a7:Nat)(a8:Zi)(a9:Int)(a10:ZC×Unit)(fs:List OM)(a12:Zy)(n:Nat)(h0:a0<a1.length)(hv:VR n a2)(hs:VS n fs.length (Sc a12)):
 W (uH a0 a1 a2 i u m a6 a7 a8 a9 a10 fs a12) (ST (fun _=>True) fun r=>∃a1',r=(a1',a2,i,u,m,a6,a7,a8,a9,a10,fs,a12)∧a1'.length=a1.length):=by
 unfold uH
 generalize hL:List.set (List.set a1 _ _) _ _=L
 have hL':L.length=a1.length:=by grind
 clear hL
 rw[aF]
 dsimp only
 split
 ·refine bK.2 (pd (m:=some a2) hv ⟨_,rfl,trivial⟩ fun x hx0 hx1=>⟨_,rfl,?_⟩)
  rw[iD]
  generalize hM:List.set _ _ _=M
  have hg:(List.getD M a0 (Ty.aD aV)).2.2.1.2.2.1=x:=by grind
  have hM':M.length=a1.length:=by grind
  clear hM
  dsimp only
  obtain⟨q1,q2,q3⟩:=hs.at' hx0 hx1
  rw[hg,aA hx0,aA q1,aA q2,aA q3]
  refine mn _ ⟨_,rfl,trivial⟩ fun y=>⟨_,rfl,_,rfl,?_⟩<;>grind
 ·exact⟨_,rfl,_,rfl,hL'⟩
theorem V3(a0:Nat)(a1:ZC)(a2:Zq)(i u m:OM)(a6:Zp)(a7:Nat)(a8:Zi)(a9:Int)(a10:Unit)(fs:List OM)(a12:Zy)(a13:ZB)(n:Nat)(h0:a0<a1.length)(hv:VR n a2)(hs:VS n fs.length (Sc a12)):
 W (uI a0 a1 a2 i u m a6 a7 a8 a9 a10 fs a12 a13) (ST (fun _=>True) fun r=>∃a1',r=(a1',a2,i,u,m,a6,a7,a8,a9,a10,fs,a12,a13)∧a1'.length=a1.length):=by
 unfold uI
 generalize hL:List.set (List.set a1 _ _) _ _=L
 have hL':L.length=a1.length:=by grind
 clear hL
 rw[aF]
 dsimp only
 split
 ·refine bK.2 (pd (m:=some a2) hv ⟨_,rfl,trivial⟩ fun x hx0 hx1=>⟨_,rfl,?_⟩)
  rw[iD]
  generalize hM:List.set _ _ _=M
  have hg:(List.getD M a0 (Ty.aD bu)).2.2.1.2.2.1=x:=by grind
  have hM':M.length=a1.length:=by grind
  clear hM
  dsimp only
  obtain⟨q1,q2,q3⟩:=hs.at' hx0 hx1
  rw[hg,aA hx0,aA q1,aA q2,aA q3]
  refine mn _ ⟨_,rfl,trivial⟩ fun y=>⟨_,rfl,_,rfl,?_⟩<;>grind
 ·exact⟨_,rfl,_,rfl,hL'⟩
def Ns(x:dr):Prop:=x.2.2.1.length*96≤aH∧x.2.2.2.1.length*120≤aH∧x.2.2.2.2.1.length*80≤aH
theorem VS.aiq{n:Nat}{s:Ze}(h:VS n K s)(y:Int):VS n K (s.set n y):=by
 refine⟨by rw[ji];exact h.1,fun j hj hn=>?_⟩
 rw[ji] at hj
 rw[List.getElem_set_ne (by omega)]
 exact h.2 j hj hn
theorem VS.push{n:Nat}{s:Ze}(h:VS n K s)(hn:n<s.length){y:Int}(h0:0≤y)(h1:y<(K:Int)):VS (n+1) K (s.set n y):=by
 refine⟨by grind,fun j hj hjn=>?_⟩
 rw[ji] at hj
 by_cases e:j=n
 ·grind
 ·rw[List.getElem_set_ne (by omega)]
  exact h.2 j hj (by omega)
theorem VR.push{n:Nat}{M:Zq}(h:VR n M)(k:Zi):VR (n+1) (aY .str k (n:Int) M):=fun p hp=>by
 rcases fj (kt:=.str) hp with rfl|hp
 ·grind
 ·have:=h p hp
  grind
theorem Se(l:Zy)(i:Nat)(v:BW):Sc (l.set i v)=(Sc l).set i v.2.2.1:=List.map_set ..
theorem Nt(i u m:OM)(l:Zp)(k:Nat)(a:dr)(fs:List OM)(hb:Ns a)(hm:VR fs.length (aX m)):W (uJ i u m l k a fs) (ST (fun _=>True) fun r=>∃x1 x2 x3 x4 x5 x6,r=(i,u,m,l,k,x1,x2,x3,fs,x4,x5,x6)):=by
 have hB:=hB
 unfold uJ
 refine pd hm ⟨_,rfl,trivial⟩ fun y1 y0 yK=>?_
 have e1:BU a.2.2.1=some a.2.2.1:=iE _ _ hb.1
 rw[e1,aM]
 have l1:a.2.2.1.length≤aH:=by have:=hb.1;omega
 have l2:a.2.2.2.1.length≤aH:=by have:=hb.2.1;omega
 have l3:a.2.2.2.2.1.length≤aH:=by have:=hb.2.2;omega
 refine bK.2 (W.ct (bW (L:=vP) rfl (CT (fun d=>∃s V,d=(i,u,m,l,k,a.1,y1,a.2.2.2,fs,s,V)∧s.length=a.2.2.1.length∧VR s.length V∧VS s.length fs.length (Sc s)) fun r=>r= .inl ((),())) a.2.2.1.length (fun c(s:Zy×Zq)=>((a.2.2.1.length:Int),(c:Int),i,u,m,l,k,a.1,y1,a.2.2.2,fs,s.1,s.2)) (fun c s=>s.1.length=a.2.2.1.length∧s.2.length≤c∧VR c s.2∧VS c fs.length (Sc s.1)) ?step ?stop _ 0 (a.2.2.1,[]) (by omega) (by omega) ⟨rfl,dO _,fun p hp=>(by cases hp),gW _,fun j hj hj0=>absurd hj0 (Nat.not_lt_zero _)⟩) (fun d ⟨s,V,h,hsl,hVR,hVS⟩=>?_) fun r h=>?_)
 case step=>
  rintro rec c ⟨s,V⟩ hc ⟨hsl,hVl,hVR,hVS⟩ kk
  dsimp only at hsl hVl hVR hVS ⊢
  have hw:=nU c (by omega)
  rw[cH (by omega),eA c,aA (show(c:Int)<(s.length:Int) by omega)]
  refine bK.2 (pd hm ⟨_,rfl,rfl⟩ fun x x0 xK=>⟨_,rfl,?_⟩)
  rw[iD]
  generalize hL:List.set _ _ _=L
  have hS:Sc L=(Sc s).set c x:=by rw[←hL,Se,jB]
  have hLl:L.length=a.2.2.1.length:=by grind
  clear hL
  dsimp only
  refine lz.2 ((V0 (Int.toNat (c:Int)) L V i u m l k a.1 y1 a.2.2.2 fs c (by grind) hVR (by rw[hS];exact hVS.aiq x)).st (fun _ _=>⟨_,rfl,rfl⟩) fun r ⟨L',hr,hL'⟩=>?_)
  subst hr
  dsimp only
  rw[aA (show V.length+1≤aH by omega)]
  rw[hw]
  refine kk (L',aY .str (List.getD L' (Int.toNat (c:Int)) (Ty.aD aQ)).1 (c:Int) V) ⟨?_,dh (dw (kt:=.str)) (by omega),VR.push (n:=c) hVR _,?_⟩
  ·have:=congrArg List.length hL'
   grind [Ca]
  ·show VS (c+1) fs.length (Sc L')
   rw[hL',hS]
   exact hVS.push (by rw[Ca];omega) x0 xK
 case stop=>
  rintro rec ⟨s,V⟩ ⟨hsl,hVl,hVR,hVS⟩
  dsimp only at hsl hVl hVR hVS ⊢
  rw[aC (by grind)]
  exact⟨_,rfl,s,V,rfl,hsl,hsl▸hVR,hsl▸hVS⟩
 ·subst h
  dsimp only
  have e2:BV a.2.2.2.1=some a.2.2.2.1:=iE _ _ hb.2.1
  rw[e2,aM]
  refine bK.2 (W.ct (bW (L:=tx) rfl (CT (fun d=>∃w,d=(i,u,m,l,k,a.1,y1,a.2.2.2.2,fs,s,V,w)) fun r=>r= .inl ((),())) a.2.2.2.1.length (fun c(w:ZB)=>((a.2.2.2.1.length:Int),(c:Int),i,u,m,l,k,a.1,y1,a.2.2.2.2,fs,s,V,w)) (fun _ w=>w.length=a.2.2.2.1.length) ?step ?stop _ 0 a.2.2.2.1 (by omega) (by omega) rfl) (fun d ⟨w,h⟩=>?_) fun r h=>?_)
  case step=>
   intro rec c w hc hI kk
   dsimp only
   have hw:=nU c (by omega)
   rw[cH (by omega),eA c,aA (show(c:Int)<(w.length:Int) by omega)]
   refine lz.2 ((V1 (Int.toNat (c:Int)) w V i u m l k a.1 y1 a.2.2.2.2 fs s s.length (by grind) hVR hVS).st (fun _ _=>⟨_,rfl,rfl⟩) fun r ⟨w',hr,hw'⟩=>?_)
   subst hr
   dsimp only
   rw[eA c,aA (show(c:Int)<(w'.length:Int) by omega)]
   refine lz.2 ((V2 (Int.toNat (c:Int)) w' V i u m l k a.1 y1 a.2.2.2.2 fs s s.length (by rw[jB];omega) hVR hVS).st (fun _ _=>⟨_,rfl,rfl⟩) fun r ⟨w2,hr,hw2⟩=>?_)<;>grind
  case stop=>
   intro rec w hI
   dsimp only
   rw[aC (by grind)]
   exact⟨_,rfl,w,rfl⟩
  ·subst h
   dsimp only
   have e3:Ao a.2.2.2.2.1=some a.2.2.2.2.1:=iE _ _ hb.2.2
   rw[e3,aM]
   refine bK.2 (W.ct (bW (L:=tA) rfl (CT (fun d=>∃z,d=(i,u,m,l,k,a.1,y1,(),fs,s,w,z)) fun r=>r= .inl ((),())) a.2.2.2.2.1.length (fun c(z:ZC)=>((a.2.2.2.2.1.length:Int),(c:Int),i,u,m,l,k,a.1,y1,a.2.2.2.2.2,fs,s,V,w,z)) (fun _ z=>z.length=a.2.2.2.2.1.length) ?step ?stop _ 0 a.2.2.2.2.1 (by omega) (by omega) rfl) (fun d ⟨z,h⟩=>?_) fun r h=>?_)
   case step=>
    intro rec c z hc hI kk
    dsimp only
    have hz:(c:Int)<(z.length:Int):=by omega
    have hw:=nU c (by omega)
    rw[cH (by omega),aA y0,aA yK,eA c,aA hz]
    refine mn _ ⟨_,rfl,rfl⟩ fun x=>?_
    rw[eA c,aA hz]
    generalize hZ:List.set z _ _=Z
    have hZl:Z.length=a.2.2.2.2.1.length:=by grind
    clear hZ
    rw[eA c,aA (show(c:Int)<(Z.length:Int) by omega)]
    refine lz.2 ((V3 (Int.toNat (c:Int)) Z V i u m l k a.1 y1 a.2.2.2.2.2 fs s w s.length (by rw[jB];omega) hVR hVS).st (fun _ _=>⟨_,rfl,rfl⟩) fun r ⟨w2,hr,hw2⟩=>?_)<;>grind
   case stop=>
    intro rec z hI
    dsimp only
    rw[aC (by grind)]
    exact⟨_,rfl,z,rfl⟩
   ·subst h
    exact⟨_,rfl,_,_,_,_,_,_,rfl⟩
   ·subst h;trivial
  ·subst h;trivial
 ·subst h;trivial
theorem Ei(i u m:OM)(l:ZJ)(k:Nat)(a:sW)(fs:List OM)(hb:a.2.2.2.2.1.length*56≤aH)(hm:VR fs.length (aX m)):W (uK i u m l k a fs) (ST (fun _=>True) fun r=>∃x1 x2 x3 x4 x5 x6,r=(i,u,m,l,k,x1,x2,x3,x4,x5,fs,x6)):=by
 have hB:=hB
 unfold uK
 refine pd hm ⟨_,rfl,trivial⟩ fun y1 y0 yK=>pd hm ⟨_,rfl,trivial⟩ fun y2 z0 zK=>?_
 have e1:Ap a.2.2.2.2.1=some a.2.2.2.2.1:=iE _ _ hb
 rw[e1,aM]
 refine bK.2 (W.ct (bW (L:=vQ) rfl (CT (fun d=>∃s,d=(i,u,m,l,k,a.1,a.2.1,y1,y2,a.2.2.2.2.2,fs,s)) fun r=>r= .inl ((),())) a.2.2.2.2.1.length (fun c(s:Zw)=>((a.2.2.2.2.1.length:Int),(c:Int),i,u,m,l,k,a.1,a.2.1,y1,y2,a.2.2.2.2.2,fs,s)) (fun _ s=>s.length=a.2.2.2.2.1.length) ?step ?stop _ 0 a.2.2.2.2.1 (by omega) (by omega) rfl) (fun d ⟨w,h⟩=>?_) fun r h=>?_)
 case step=>
  intro rec c s hc hI kk
  dsimp only
  have hw:=nU c (by omega)
  rw[cH (by omega),eA c,aA (show(c:Int)<(s.length:Int) by omega),aA y0,aA yK]
  refine mn _ ?_ fun x=>?_
  ·rw[aA z0,aA zK];exact⟨_,rfl,rfl⟩
  ·rw[aA z0,aA zK]
   refine mn _ ⟨_,rfl,rfl⟩ fun y=>?_<;>grind
 case stop=>
  intro rec s hI
  dsimp only
  rw[aC (by grind)]
  exact⟨_,rfl,s,rfl⟩
 ·subst h
  exact⟨_,rfl,_,_,_,_,_,_,rfl⟩
 ·subst h;trivial
theorem Ej(i u m:OM)(l:ZE)(k:Nat)(a:oL)(fs:List OM)(hb:a.2.1.length*48≤aH)(hm:VR fs.length (aX m)):W (uL i u m l k a fs) (ST (fun _=>True) fun r=>∃x1 x2 x3,r=(i,u,m,l,k,x1,x2,fs,x3)):=by
 have hB:=hB
 unfold uL
 have e1:Aq a.2.1=some a.2.1:=iE _ _ hb
 rw[e1,aM]
 refine bK.2 (W.ct (bW (L:=vR) rfl (CT (fun d=>∃s,d=(i,u,m,l,k,a.1,a.2.2,fs,s)) fun r=>r= .inl ((),())) a.2.1.length (fun c(s:List pX)=>((a.2.1.length:Int),(c:Int),i,u,m,l,k,a.1,a.2.2,fs,s)) (fun _ s=>s.length=a.2.1.length) ?step ?stop _ 0 a.2.1 (by omega) (by omega) rfl) (fun d ⟨w,h⟩=>?_) fun r h=>?_)
 case step=>
  intro rec c s hc hI kk
  dsimp only
  have hw:=nU c (by omega)
  rw[cH (by omega),eA c,aA (show(c:Int)<(s.length:Int) by omega)]
  refine bK.2 (pd hm ⟨_,rfl,rfl⟩ fun x x0 xK=>⟨_,rfl,?_⟩)
  rw[iD]
  generalize hM:List.set _ _ _=M
  have hg:(List.getD M (Int.toNat (c:Int)) (Ty.aD fa)).2.2.1=x:=by grind
  have hM':M.length=a.2.1.length:=by grind
  clear hM
  dsimp only
  rw[hg,aA x0,aA xK]
  refine mn _ ⟨_,rfl,rfl⟩ fun y=>?_<;>grind
 case stop=>
  intro rec s hI
  dsimp only
  rw[aC (by grind)]
  exact⟨_,rfl,s,rfl⟩
 ·subst h
  exact⟨_,rfl,_,_,_,rfl⟩
 ·subst h;trivial
structure BS(s:cu):Prop where
 oI:s.1.length*16≤aH
 nI:s.2.1.length*56≤aH
 dp:s.2.2.1.length*96≤aH
 rules:s.2.2.2.1.length*96≤aH
 iY:s.2.2.2.2.1.length*72≤aH
 fh:s.2.2.2.2.2.1.length*48≤aH
 sch:∀x∈s.2.2.1,VZ x
 rl:∀x∈s.2.2.2.1,Ns x
 cv:∀x∈s.2.2.2.2.1,x.2.2.2.2.1.length*56≤aH
 pu:∀x∈s.2.2.2.2.2.1,x.2.1.length*48≤aH
def jU{α:Type}(P:α→Prop)(c:Nat)(l:List α):Prop:=∀j(h:j<l.length),c≤j→P l[j]
theorem jU.of{P:α→Prop}{l:List α}(h:∀x∈l,P x):jU P 0 l:=fun _ hj _=>h _ (fU hj)
theorem jU.next{P:α→Prop}{c:Nat}{l:List α}(h:jU P c l)(v:α):jU P (c+1) (l.set (Int.toNat (c:Int)) v):=fun j hj hc=>by
 have hj':j<l.length:=by grind
 rw[List.getElem_set_ne (by grind)]
 exact h j hj' (by omega)
theorem jU.here{t:Ty}{P:t.den→Prop}{c:Nat}{l:List t.den}(h:jU P c l)(hc:c<l.length):P (nth t l (c:Int)):=by
 rw[cP (t:=t) hc]
 exact h c hc (dO _)
theorem Ek(s:cu)(hs:SS s)(hb:BS s):W (f127 s) fun _=>True:=by
 have hB:=hB
 obtain⟨tw,i,u,m,fs,e,hi,hu,hm,hl,hf⟩:=J4 s hs hb.dp
 unfold f127
 rw[e,aM]
 dsimp only
 split
 ·exact⟨_,rfl,trivial⟩
 ·have e1:BK s.1=some s.1:=iE _ _ hb.oI
  have e2:BL s.2.1=some s.2.1:=iE _ _ hb.nI
  have e3:BM s.2.2.1=some s.2.2.1:=iE _ _ hb.dp
  have e4:BN s.2.2.2.1=some s.2.2.2.1:=iE _ _ hb.rules
  have e5:BO s.2.2.2.2.1=some s.2.2.2.2.1:=iE _ _ hb.iY
  have e6:BP s.2.2.2.2.2.1=some s.2.2.2.2.2.1:=iE _ _ hb.fh
  rw[e1,aM,e2,aM,e3,aM,e4,aM,e5,aM,e6,aM]
  have k3:=hs.dp
  have k4:=hs.rules
  have k5:=hs.iY
  have k6:=hs.fh
  have p3:=jU.of hb.sch
  have p4:=jU.of hb.rl
  have p5:=jU.of hb.cv
  have p6:=jU.of hb.pu
  have qu:=J5 i u m s.2.1 fs hs.nI hu
  rw[←hl] at hm
  generalize s.1=v1 at*
  generalize s.2.1=v2 at*
  generalize s.2.2.1=v3 at*
  generalize s.2.2.2.1=v4 at*
  generalize s.2.2.2.2.1=v5 at*
  generalize s.2.2.2.2.2.1=v6 at*
  refine lz.2 (qu.st (fun _ _=>⟨_,rfl,trivial⟩) fun r ⟨us,hr⟩=>?_)
  subst hr
  dsimp only
  refine bK.2 (W.ct (bW (L:=Hv) rfl (CT (fun d=>∃p,d=((0:Int),i,u,m,v1,us,p,v4,v5,v6,fs)) fun _=>True) v3.length (fun c(p:ZG)=>((v3.length:Int),(c:Int),0,i,u,m,v1,us,p,v4,v5,v6,fs)) (fun c p=>p.length=v3.length∧jU VZ c p) ?step ?stop _ 0 v3 (by omega) (by omega) ⟨rfl,p3⟩) (fun d ⟨w3,h⟩=>?_) fun _ _=>trivial)
  case step=>
   rintro rec c p hc ⟨hp,hT⟩ kk
   dsimp only
   have hcp:c<p.length:=by omega
   have hw:=nU c (by omega)
   rw[cH (by omega),eA c,aA (show(c:Int)<(p.length:Int) by omega),eA c,aA rfl,eA c,aA (show(c:Int)<(fs.length:Int) by omega)]
   refine lz.2 ((GQ _ i u m p _ _ fs (hT.here (t:=bF) hcp)).st (fun _ _=>⟨_,rfl,trivial⟩) fun r ⟨x1,x2,x3,x4,x5,x6,x7,hr⟩=>?_)
   subst hr
   rw[hw]
   exact kk _ ⟨by grind,hT.next _⟩
  case stop=>
   rintro rec p ⟨hp,hT⟩
   dsimp only
   rw[aC (by grind)]
   exact⟨_,rfl,p,rfl⟩
  subst h
  dsimp only
  refine bK.2 (W.ct (bW (L:=CP) rfl (CT (fun d=>∃p,d=((0:Int),i,u,m,v1,us,w3,p,v5,v6,fs)) fun _=>True) v4.length (fun c(p:Zp)=>((v4.length:Int),(c:Int),0,i,u,m,v1,us,w3,p,v5,v6,fs)) (fun c p=>p.length=v4.length∧jU Ns c p) ?step ?stop _ 0 v4 (by omega) (by omega) ⟨rfl,p4⟩) (fun d ⟨w4,h⟩=>?_) fun _ _=>trivial)
  case step=>
   rintro rec c p hc ⟨hp,hT⟩ kk
   dsimp only
   have hcp:c<p.length:=by omega
   have hw:=nU c (by omega)
   rw[cH (by omega),eA c,aA (show(c:Int)<(p.length:Int) by omega),eA c,aA rfl]
   refine lz.2 ((Nt i u m p _ _ fs (hT.here (t:=bG) hcp) hm).st (fun _ _=>⟨_,rfl,trivial⟩) fun r ⟨x1,x2,x3,x4,x5,x6,hr⟩=>?_)
   subst hr
   rw[hw]
   exact kk _ ⟨by grind,hT.next _⟩
  case stop=>
   rintro rec p ⟨hp,hT⟩
   dsimp only
   rw[aC (by grind)]
   exact⟨_,rfl,p,rfl⟩
  subst h
  dsimp only
  refine bK.2 (W.ct (bW (L:=CS) rfl (CT (fun d=>∃p,d=((0:Int),i,u,m,v1,us,w3,w4,p,v6,fs)) fun _=>True) v5.length (fun c(p:ZJ)=>((v5.length:Int),(c:Int),0,i,u,m,v1,us,w3,w4,p,v6,fs)) (fun c p=>p.length=v5.length∧jU (fun x:sW=>x.2.2.2.2.1.length*56≤aH) c p) ?step ?stop _ 0 v5 (by omega) (by omega) ⟨rfl,p5⟩) (fun d ⟨w5,h⟩=>?_) fun _ _=>trivial)
  case step=>
   rintro rec c p hc ⟨hp,hT⟩ kk
   dsimp only
   have hcp:c<p.length:=by omega
   have hw:=nU c (by omega)
   rw[cH (by omega),eA c,aA (show(c:Int)<(p.length:Int) by omega),eA c,aA rfl]
   refine lz.2 ((Ei i u m p _ _ fs (hT.here (t:=gw) hcp) hm).st (fun _ _=>⟨_,rfl,trivial⟩) fun r ⟨x1,x2,x3,x4,x5,x6,hr⟩=>?_)
   subst hr
   rw[hw]
   exact kk _ ⟨by grind,hT.next _⟩
  case stop=>
   rintro rec p ⟨hp,hT⟩
   dsimp only
   rw[aC (by grind)]
   exact⟨_,rfl,p,rfl⟩
  subst h
  dsimp only
  refine bK.2 (W.ct (bW (L:=CU) rfl (CT (fun _=>True) fun _=>True) v6.length (fun c(p:ZE)=>((v6.length:Int),(c:Int),0,i,u,m,v1,us,w3,w4,w5,p,fs)) (fun c p=>p.length=v6.length∧jU (fun x:oL=>x.2.1.length*48≤aH) c p) ?step ?stop _ 0 v6 (by omega) (by omega) ⟨rfl,p6⟩) (fun d h=>?_) fun _ _=>trivial)
  case step=>
   rintro rec c p hc ⟨hp,hT⟩ kk
   dsimp only
   have hcp:c<p.length:=by omega
   have hw:=nU c (by omega)
   rw[cH (by omega),eA c,aA (show(c:Int)<(p.length:Int) by omega),eA c,aA rfl]
   refine lz.2 ((Ej i u m p _ _ fs (hT.here (t:=dL) hcp) hm).st (fun _ _=>⟨_,rfl,trivial⟩) fun r ⟨x1,x2,x3,hr⟩=>?_)
   subst hr
   rw[hw]
   exact kk _ ⟨by grind,hT.next _⟩
  case stop=>
   rintro rec p ⟨hp,hT⟩
   dsimp only
   rw[aC (by grind)]
   exact⟨_,rfl,trivial⟩
  exact⟨_,rfl,trivial⟩
theorem Cb(s:cu)(hs:SS s)(hb:BS s):∃r,f99 s=some r:=by
 obtain⟨⟨a,b⟩,e,_⟩:=Ek s hs hb
 unfold f99
 rw[e,aM]
 dsimp only
 obtain⟨q,hq⟩:=Eg a s hs
 rw[hq,aM]
 repeat' (first|exact⟨_,rfl⟩|split)
structure SA(s:cu):Prop where
 ss:SS s
 bs:BS s
 sw:SW s
structure CG(s:cu)(l:Ze):Prop where
 tg:TG s
 rk:xL s l
 sw:SW s
 od:f104 s=some (l,true,0)
theorem Nu(s:cu)(hs:SA s):∃r,f66 s=some r∧(r.1=0→r.2.1=s∧CG s r.2.2.1):=by
 have no:∀(x:Int)(y:Cj),(!decide (x=(0:Int)))=true→∃r,some (x,y)=some r∧(r.1=0→r.2.1=s∧CG s r.2.2.1):=fun x y hx=>⟨_,rfl,fun h=>by
  grind⟩
 unfold f66
 obtain⟨r1,e1⟩:=Cb s hs.ss hs.bs
 obtain⟨r2,e2,_⟩:=zV s hs.sw
 obtain⟨r3,e3⟩:=xR s hs.ss
 obtain⟨r4,e4,m4⟩:=GL s hs.sw
 obtain⟨r5,e5⟩:=GN s hs.sw.nb hs.ss
 rw[e1,aM]
 by_cases h1:(!decide (r1=(0:Int)))=true
 ·rw[aA h1];exact no _ _ h1
 ·rw[aC h1,e2,aM]
  by_cases h2:(!decide (r2=(0:Int)))=true
  ·rw[aA h2];exact no _ _ h2
  ·rw[aC h2,e3,aM]
   by_cases h3:(!decide (r3=(0:Int)))=true
   ·rw[aA h3];exact no _ _ h3
   ·rw[aC h3,e4,aM]
    by_cases h4:(!decide (r4=(0:Int)))=true
    ·rw[aA h4];exact no _ _ h4
    ·rw[aC h4,e5,aM]
     by_cases h5:(!decide (r5=(0:Int)))=true
     ·rw[aA h5];exact no _ _ h5
     ·rw[aC h5,aF]
      obtain⟨hT,l,ho,hR⟩:=m4 (by grind)
      rw[ho,aM]
      exact⟨_,rfl,fun _=>⟨rfl,hT,hR,hs.sw,ho⟩⟩
end Go.Proofs.YtpmlkhjpbjnagaaGreat
