/- The program's public key is the reference's. No condition beyond what each theorem states. -/
import Derived.Test.YtjabllhapfphoaaGreatDoorE2
import Derived.Test.YtjabllhapfphoaaGreatDoorL9
namespace Go.Proofs.YtjabllhapfphoaaGreatDoor
open Go.Abs
def Dg(x:List Int):Prop:=x.length=32∧gE x
theorem gE.set{l:List Int}(h:gE l)(i:Nat){v:Int}(hv:0≤v∧v<256):gE (List.set l i v):=by
 intro x hx
 rcases List.mem_or_eq_of_mem_set hx with hx|hx
 ·exact h x hx
 ·rw[hx];exact hv
theorem DS(y:aX):∃r,Dg r∧c7 y (Int.toNat (32:Int)+1) (0:Int) (Ty.aS ao)=some r:=by
 have h:=cE (fun _(s:aU)=>Dg s) (fun(r:aU)=>Dg r) (fun n i s=>c7 y n i s) 32
  (by
   intro n i s hi hj
   left
   have e1:Int.tdiv (i:Int) 4=((i / 4:Nat):Int):=rfl
   have e2:Int.tmod (i:Int) 4=((i % 4:Nat):Int):=rfl
   have e3:aP ((i / 4:Nat):Int)=((i / 4:Nat):Int):=bm (by omega) (by omega)
   have e4:aP ((8:Int)*((i % 4:Nat):Int))=8*((i % 4:Nat):Int):=bm (by omega) (by omega)
   have e5:aP ((24:Int) -8*((i % 4:Nat):Int))=24 -8*((i % 4:Nat):Int):=bm (by omega) (by omega)
   refine⟨List.set s i (IntKind.u8.wrap (Int.fdiv (nth (.int .u32) y ((i / 4:Nat):Int)) (2^(min (Int.toNat (24 -8*((i % 4:Nat):Int))) 32)))),⟨by rw[List.length_set];exact hj.1,hj.2.set _ (xJ _)⟩,?_⟩
   simp only[c7,e1,e2,e3,e4,e5,aJ (show i≤_ by omega),Int.toNat_natCast]
   rw[if_pos (by rw[decide_eq_true_eq];omega),if_pos (by omega),if_pos (by omega),if_pos (by omega)])
  (by intro n s hs;exact⟨s,hs,by simp[c7]⟩) (Int.toNat 32+1) 0 (Ty.aS ao) (by omega) (by simp) ⟨rfl,by
   intro x hx
   have:x=0:=List.eq_of_mem_replicate (n:=32) hx
   omega⟩
 exact h
theorem d125(a0:List (List Int))(ha:a0.length≤1000)(hx:∀x∈a0,x.length≤1000)(hb:∀x∈a0,gE x):∃r,Dg r∧f125 a0=some r∧f219 a0.flatten=some r:=by
 obtain⟨y,hy⟩:=t216 a0 ha hx [(1779033703:Int),(3144134277:Int),(1013904242:Int),(2773480762:Int),(1359893119:Int),(2600822924:Int),(528734635:Int),(1541459225:Int)]
 obtain⟨r,hr,e⟩:=DS y
 have h:f125 a0=some r:=by unfold f125;rw[hy,bs,e,bs]
 exact⟨r,hr,h,by rw[←J9 a0 ha hx hb];exact h⟩
theorem vL(s:List UInt8):gE (bytesOf s):=by
 intro x hx
 simp only[bytesOf,List.mem_map] at hx
 obtain⟨b,_,e⟩:=hx
 have:=b.toNat_lt
 omega
theorem xv{x:List Int}(h:x.length=32):List.take (32 -0) (List.drop 0 x)=x:=by
 rw[List.drop_zero];exact List.take_of_length_le (by omega)
theorem DT{x:List Int}(h:x.length=32):aW x 0 32=x:=by
 unfold aW;exact xv h
theorem d56(a0:List UInt8)(a1:List Int)(h0:a0.length≤1000)(h1:a1.length≤1000)(hb:gE a1):∃r,Dg r∧f56 a0 a1=some r∧f129 a0 a1=some r:=by
 obtain⟨y,hy,g1,g2⟩:=d125 [bytesOf a0] (by simp) (by simp[bytesOf];exact h0) (by simpa using vL a0)
 obtain⟨r,hr,k1,k2⟩:=d125 [y,a1] (by simp) (by simp[hy.1];exact h1) (by simp;exact⟨hy.2,hb⟩)
 refine⟨r,hr,?_,?_⟩
 ·unfold f56
  rw[g1,bs,DT hy.1,k1,bs]
 ·unfold f129
  simp only[List.flatten_cons,List.flatten_nil,List.append_nil] at g2 k2
  rw[g2,bs,xv hy.1,if_pos (by simp[az,hy.1]),if_pos (by simp only[az,hy.1];omega),k2,bs]
theorem d58(a0:aU)(a1:Int)(ha:Dg a0):∃r,Dg r∧f58 a0 a1=some r∧f63 a0 a1=some r:=by
 obtain⟨r,hr,g1,g2⟩:=d56 [99,104,97,105,110] (a0++[IntKind.u8.wrap a1]) (by simp) (by simp[ha.1]) (ha.2.append (by
  intro x hx
  have:x=IntKind.u8.wrap a1:=by simpa using hx
  rw[this];exact xJ _))
 refine⟨r,hr,?_,?_⟩
 ·unfold f58
  have:f127 [aW a0 0 32,[IntKind.u8.wrap a1]]=some (a0++[IntKind.u8.wrap a1]):=by
   rw[DT ha.1]
   have e0:nth (.slice 1 (.int .u8)) [a0,[IntKind.u8.wrap a1]] 0=a0:=rfl
   have e1:nth (.slice 1 (.int .u8)) [a0,[IntKind.u8.wrap a1]] 1= [IntKind.u8.wrap a1]:=rfl
   have w0:aP ((0:Int)+1)=1:=rfl
   have w1:aP ((1:Int)+1)=2:=rfl
   unfold f127
   simp only[List.length_cons,List.length_nil,gF]
   rw[if_pos (by simp),if_pos (by simp),e0,if_pos (by simp[az,ha.1]),w0,if_pos (by simp),if_pos (by simp),e1,if_pos (by simp[az,ha.1]),w1,if_neg (by simp),bs,List.nil_append]
  rw[this,bs,g1,bs]
 ·unfold f63
  rw[xv ha.1,if_pos (by simp[az,ha.1]),if_pos (by simp[az,ha.1]),g2,bs]
theorem By(x:aU)(hx:Dg x):∃r,Dg r∧f56 [115,116,101,112] x=some r∧f128 x=some r:=by
 obtain⟨r,hr,g1,g2⟩:=d56 [115,116,101,112] x (by simp) (by rw[hx.1];omega) hx.2
 refine⟨r,hr,g1,?_⟩
 unfold f128
 rw[xv hx.1,g2,bs]
theorem d57(x:aU)(hx:Dg x):∃r,Dg r∧f57 x 3=some r∧f62 x 3=some r:=by
 obtain⟨x1,h1,p1,q1⟩:=By x hx
 obtain⟨x2,h2,p2,q2⟩:=By x1 h1
 obtain⟨x3,h3,p3,q3⟩:=By x2 h2
 have hm:∃m,bX=m+4:=⟨bX -4,by simp[bX]⟩
 obtain⟨m,hm⟩:=hm
 refine⟨x3,h3,?_,?_⟩
 ·unfold f57 pq pt
  rw[bs,hm]
  have s3:∀u d,l4 u 3 d=some (.bh (2,d)):=fun _ _=>rfl
  have s2:∀u d,l4 u 2 d=some (.bh (1,d)):=fun _ _=>rfl
  have s1:∀u d,l4 u 1 d=some (.bh (0,d)):=fun _ _=>rfl
  have s0:∀u d,l4 u 0 d=some (.ret (0,(0,u))):=fun _ _=>rfl
  simp only[fH,s3,bs,xv hx.1,p1,s2,xv h1.1,p2,s1,xv h2.1,p3,s0]
  rfl
 ·unfold f62
  rw[hm]
  have w0:aP ((0:Int)+1)=1:=rfl
  have w1:aP ((1:Int)+1)=2:=rfl
  have w2:aP ((2:Int)+1)=3:=rfl
  simp only[nZ]
  rw[if_pos (by simp),q1,bs,w0,if_pos (by simp),q2,bs,w1,if_pos (by simp),q3,bs,w2,if_neg (by simp),bs]
def mX(a0:aU)(i:Nat):aU:=((f63 a0 (i:Int)).bind fun y=>f62 y 3).getD []
theorem qf(a0:aU)(ha:Dg a0)(i:Nat):Dg (mX a0 i)∧(∃y,f58 a0 (i:Int)=some y∧f57 y 3=some (mX a0 i))∧(∃y,f63 a0 (i:Int)=some y∧f62 y 3=some (mX a0 i)):=by
 obtain⟨y,hy,g1,g2⟩:=d58 a0 i ha
 obtain⟨z,hz,k1,k2⟩:=d57 y hy
 have e:mX a0 i=z:=by unfold mX;rw[g2,bs,k2];rfl
 rw[e]
 exact⟨hz,⟨y,g1,k1⟩,⟨y,g2,k2⟩⟩
def ends(a0:aU)(n:Nat):List aU:=(List.range n).map (mX a0)
theorem sq(a0:aU)(n:Nat):ends a0 (n+1)=ends a0 n++[mX a0 n]:=by
 unfold ends;rw[List.range_succ,List.map_append];rfl
theorem gX(a0:aU)(n:Nat):(ends a0 n).length=n:=by simp[ends]
theorem Gc(a0:aU)(ha:Dg a0):jE a0 (Int.toNat (19:Int)+1) (0:Int) (Ty.aS oU)=some (ends a0 19):=by
 have h:=cE (fun i(s:List aU)=>s=ends a0 i++List.replicate (19 -i) (List.replicate 32 (0:Int))) (fun(r:List aU)=>r=ends a0 19) (fun n i s=>jE a0 n i s) 19
  (by
   intro n i s hi hs
   left
   obtain⟨_,⟨y,g1,g2⟩,_⟩:=qf a0 ha i
   refine⟨List.set s i (mX a0 i),?_,?_⟩
   ·have hrep:∀k(z v:aU),0<k→List.set (List.replicate k z) 0 v=v::List.replicate (k -1) z:=by
     intro k z v hk
     obtain⟨k,rfl⟩:∃m,k=m+1:=⟨k -1,by omega⟩
     rfl
    rw[hs,List.set_append_right _ _ (by rw[gX];omega),gX,Nat.sub_self,hrep _ _ _ (by omega),sq,List.append_assoc]
    rfl
   ·simp only[jE,g1,g2,bs,aJ (show i≤_ by omega),Int.toNat_natCast]
    rw[if_pos (by rw[decide_eq_true_eq];omega),if_pos (by omega)])
  (by
   intro n s hs
   refine⟨s,?_,by simp[jE]⟩
   rw[hs];simp) (Int.toNat 19+1) 0 (Ty.aS oU) (by omega) (by simp) rfl
 obtain⟨r,hr,e⟩:=h
 rw[←hr];exact e
theorem Gd(a0:aU)(ha:Dg a0):jG a0 bX (0:Int) ([]:List aU)=some (ends a0 19):=by
 have h:=cE (fun i(s:List aU)=>s=ends a0 i) (fun(r:List aU)=>r=ends a0 19) (fun n i s=>jG a0 n i s) 19
  (by
   intro n i s hi hs
   left
   obtain⟨_,_,⟨y,g1,g2⟩⟩:=qf a0 ha i
   refine⟨s++[mX a0 i],by rw[hs,sq],?_⟩
   have hl:s.length=i:=by rw[hs,gX]
   simp only[jG,g1,g2,bs,aJ (show i≤_ by omega)]
   rw[if_pos (by rw[decide_eq_true_eq];omega),if_pos (by simp only[hl,List.length_cons,List.length_nil,az];omega)])
  (by
   intro n s hs
   exact⟨s,hs,by simp[jG]⟩) bX 0 [] (by omega) (by simp[bX]) rfl
 obtain⟨r,hr,e⟩:=h
 rw[←hr];exact e
theorem Bz(a0:aU)(ha:Dg a0)(n:Nat):∀x∈ends a0 n,Dg x:=by
 intro x hx
 simp only[ends,List.mem_map] at hx
 obtain⟨i,_,e⟩:=hx
 rw[←e];exact(qf a0 ha i).1
theorem qg{l:List aU}(h:∀x∈l,Dg x):l.flatten.length=32*l.length∧gE l.flatten:=by
 induction l with
 |nil=>exact⟨rfl,fun x hx=>by cases hx⟩
 |
  cons a l ih=>
  have ha:=h a (by simp)
  have hl:=ih (fun x hx=>h x (by simp[hx]))
  refine⟨?_,?_⟩
  ·rw[List.flatten_cons,List.length_append,ha.1,hl.1,List.length_cons];omega
  ·rw[List.flatten_cons];exact ha.2.append hl.2
theorem d127(l:List aU)(h:∀x∈l,Dg x)(hl:l.length≤1000):f127 l=some l.flatten:=by
 have h:=cE (fun i(s:List Int)=>s=(l.take i).flatten) (fun(r:List Int)=>r=l.flatten) (fun n i s=>gF l n i s) l.length
  (by
   intro n i s hi hs
   left
   have hn:nth (.slice 1 (.int .u8)) l (i:Int)=l[i]:=aR (t:=.slice 1 (.int .u8)) hi
   have hd:=h _ (List.getElem_mem hi)
   have hsl:s.length≤32*i:=by
    rw[hs,(qg (l:=l.take i) (fun x hx=>h x (List.mem_of_mem_take hx))).1,List.length_take];omega
   refine⟨s++l[i],by rw[hs,List.take_succ_eq_append_getElem hi,List.flatten_append];simp,?_⟩
   simp only[gF,hn,aJ (show i≤_ by omega)]
   rw[if_pos (by rw[decide_eq_true_eq];omega),if_pos (by omega),if_pos (by rw[hd.1];simp only[az];omega)])
  (by
   intro n s hs
   rw[List.take_length] at hs
   exact⟨s,hs,by simp[gF]⟩) (l.length+1) 0 [] (by omega) (by omega) (by simp)
 obtain⟨r,hr,e⟩:=h
 unfold f127
 rw[show(0:Int)=((0:Nat):Int) from rfl,e,bs,hr]
theorem Ge(l:List aU)(h:∀x∈l,Dg x)(hl:l.length=19):jD (Int.toNat (19:Int)+1) l (0:Int) (List.replicate (Int.toNat (19:Int)) (Ty.aS (.slice 1 (.int .u8))))=some l:=by
 have h:=cE (fun i(s:List (List Int))=>s=l.take i++List.replicate (19 -i) ([]:List Int)) (fun(r:List (List Int))=>r=l) (fun n i s=>jD n l i s) 19
  (by
   intro n i s hi hs
   left
   have hn:nth ao l (i:Int)=l[i]:=aR (t:=ao) (by omega)
   have hd:=h l[i] (List.getElem_mem (by omega))
   have hsl:s.length=19:=by rw[hs,List.length_append,List.length_take,List.length_replicate];omega
   refine⟨List.set s i l[i],?_,?_⟩
   ·have hrep:∀k(z v:aU),0<k→List.set (List.replicate k z) 0 v=v::List.replicate (k -1) z:=by
     intro k z v hk
     obtain⟨k,rfl⟩:∃m,k=m+1:=⟨k -1,by omega⟩
     rfl
    have htl:(l.take i).length=i:=by rw[List.length_take];omega
    rw[hs,List.set_append_right _ _ (by rw[htl];omega),htl,Nat.sub_self,hrep _ _ _ (by omega),List.take_succ_eq_append_getElem (by omega),List.append_assoc]
    rfl
   ·simp only[jD,hn,aJ (show i≤_ by omega),Int.toNat_natCast,DT hd.1,hsl]
    rw[if_pos (by rw[decide_eq_true_eq];omega),if_pos (by omega),if_pos (by omega)])
  (by
   intro n s hs
   refine⟨s,?_,by simp[jD]⟩
   rw[hs,←hl,List.take_length];simp) (Int.toNat 19+1) 0 (List.replicate (Int.toNat (19:Int)) (Ty.aS (.slice 1 (.int .u8)))) (by omega) (by simp) rfl
 obtain⟨r,hr,e⟩:=h
 rw[hr] at e;exact e
theorem Gf(l:List aU)(h:∀x∈l,Dg x)(hl:l.length≤1000):jF l bX (0:Int) ([]:List Int)=some l.flatten:=by
 have h:=cE (fun i(s:List Int)=>s=(l.take i).flatten) (fun(r:List Int)=>r=l.flatten) (fun n i s=>jF l n i s) l.length
  (by
   intro n i s hi hs
   left
   have hn:nth ao l (i:Int)=l[i]:=aR (t:=ao) hi
   have hd:=h _ (List.getElem_mem hi)
   have hsl:s.length≤32*i:=by
    rw[hs,(qg (l:=l.take i) (fun x hx=>h x (List.mem_of_mem_take hx))).1,List.length_take];omega
   refine⟨s++l[i],by rw[hs,List.take_succ_eq_append_getElem hi,List.flatten_append];simp,?_⟩
   simp only[jF,hn,aJ (show i≤_ by omega),DT hd.1]
   rw[if_pos (by rw[decide_eq_true_eq];omega),if_pos (by omega),if_pos (by rw[hd.1];simp only[az];omega)])
  (by
   intro n s hs
   rw[List.take_length] at hs
   exact⟨s,hs,by simp[jF]⟩) bX 0 [] (by omega) (by simp only[bX];omega) (by simp)
 obtain⟨r,hr,e⟩:=h
 rw[hr] at e;exact e
theorem d24(a0:aU)(ha:Dg a0):∃r,Dg r∧f24 a0=some r∧f28 a0=some r:=by
 have hm:=Bz a0 ha 19
 have hfl:=qg hm
 rw[gX] at hfl
 obtain⟨r,hr,g1,g2⟩:=d56 [112,117,98,108,105,99] (ends a0 19).flatten (by simp) (by rw[hfl.1];omega) hfl.2
 refine⟨r,hr,?_,?_⟩
 ·unfold f24 f59
  rw[Gc a0 ha,bs,if_pos (by simp[az]),Ge _ hm (gX a0 19),bs,d127 _ hm (by rw[gX];omega),bs,g1,bs,bs]
 ·unfold f28 f64
  rw[Gd a0 ha,bs,Gf _ hm (by rw[gX];omega),bs,g2,bs,bs]
end Go.Proofs.YtjabllhapfphoaaGreatDoor
