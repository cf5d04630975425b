/- The digest never fails: each printed function of chains.Public answers at every input. No condition beyond what each theorem states. -/
import Derived.Test.YtmpdeifdnbhdiaaGreatDoorH2
import Derived.Test.YtmpdeifdnbhdiaaGreatDoorA5
namespace Go.Proofs.YtmpdeifdnbhdiaaGreatDoor
open Go.Abs
theorem t111(a b:Int):∃r,f111 a b=some r:=by
 simp only[f111,Bz,By,if_true];exact⟨_,rfl⟩
theorem FA(a0:Nat)(a2:aY)(a3:bS)(u:Nat)(hu:u<16)(s:ec):∃r,bY a0 64 a2 a3 (u:Int) (Int.toNat (4:Int)+1) (0:Int) s=some r:=by
 have h:=l6 (fun _ _=>True) (fun _=>True) (fun n i s=>bY a0 64 a2 a3 (u:Int) n i s) 4
  (by
   intro n i s hi _
   left
   have e1:ao ((4:Int)*(u:Int))=4*u:=aP (by omega) (by omega)
   have e2:ao (4*(u:Int)+(i:Int))=4*u+i:=aP (by omega) (by omega)
   refine' ⟨_,trivial,_⟩
   rotate_left
   simp only[bY,e1,e2,aK (show i≤_ by omega)]
   rw[if_pos (by simp;omega),if_pos (by omega),if_pos (by omega)])
  (by intro n s _;exact⟨s,trivial,by simp[bY]⟩) (Int.toNat 4+1) 0 s (by omega) (by simp) trivial
 obtain⟨r,_,e⟩:=h
 exact⟨r,e⟩
theorem Bo(a0:Nat)(a2:aY)(a3:bS)(s:ec):∃r,cH a0 64 a2 a3 (Int.toNat (16:Int)+1) (0:Int) s=some r:=by
 have h:=l6 (fun _ _=>True) (fun _=>True) (fun n i s=>cH a0 64 a2 a3 n i s) 16
  (by
   intro n i s hi _
   left
   obtain⟨r,e⟩:=FA a0 a2 a3 i hi s
   refine⟨r,trivial,?_⟩
   simp only[cH,e,aK (show i≤_ by omega)]
   rw[if_pos (by simp;omega)];rfl)
  (by intro n s _;exact⟨s,trivial,by simp[cH]⟩) (Int.toNat 16+1) 0 s (by omega) (by simp) trivial
 obtain⟨r,_,e⟩:=h
 exact⟨r,e⟩
theorem Bp(a2:aY)(a3:bS)(s:ec):∃r,cI a2 a3 cS (16:Int) s=some r:=by
 have h:=l6 (fun i _=>16≤i) (fun _=>True) (fun n i s=>cI a2 a3 n i s) 64
  (by
   intro n i s hi hj
   left
   have e1:ao ((i:Int) -15)=i -15:=aP (by omega) (by omega)
   have e2:ao ((i:Int) -2)=i -2:=aP (by omega) (by omega)
   have e3:ao ((i:Int) -16)=i -16:=aP (by omega) (by omega)
   have e4:ao ((i:Int) -7)=i -7:=aP (by omega) (by omega)
   obtain⟨r1,h1⟩:=t111 (nth (.int .u32) s ((i:Int) -15)) (-7)
   obtain⟨r2,h2⟩:=t111 (nth (.int .u32) s ((i:Int) -15)) (-18)
   obtain⟨r3,h3⟩:=t111 (nth (.int .u32) s ((i:Int) -2)) (-17)
   obtain⟨r4,h4⟩:=t111 (nth (.int .u32) s ((i:Int) -2)) (-19)
   refine' ⟨_,by omega,_⟩
   rotate_left
   simp only[cI,e1,e2,e3,e4,aK (show i≤_ by omega)]
   rw[if_pos (by simp;omega),if_pos (by omega),if_pos (by omega),h1,h2,h3,h4]
   simp only[Option.bind]
   rw[if_pos (by omega),if_pos (by omega),if_pos (by omega)])
  (by intro n s _;exact⟨s,trivial,by simp[cI]⟩) cS 16 s (by omega) (by simp[cS]) (by omega)
 obtain⟨r,_,e⟩:=h
 exact⟨r,e⟩
theorem Bq(a2:aY)(a3:bS)(o:ec)(s:aY):∃r,cJ a2 a3 o (Int.toNat (64:Int)+1) (0:Int) s=some r:=by
 have h:=l6 (fun _ _=>True) (fun _=>True) (fun n i s=>cJ a2 a3 o n i s) 64
  (by
   intro n i s hi hj
   left
   obtain⟨r1,h1⟩:=t111 (nth (.int .u32) s 4) (-6)
   obtain⟨r2,h2⟩:=t111 (nth (.int .u32) s 4) (-11)
   obtain⟨r3,h3⟩:=t111 (nth (.int .u32) s 4) (-25)
   obtain⟨r4,h4⟩:=t111 (nth (.int .u32) s 0) (-2)
   obtain⟨r5,h5⟩:=t111 (nth (.int .u32) s 0) (-13)
   obtain⟨r6,h6⟩:=t111 (nth (.int .u32) s 0) (-22)
   refine' ⟨_,trivial,_⟩
   rotate_left
   simp only[cJ,aK (show i≤_ by omega)]
   rw[if_pos (by simp;omega),h1,h2,h3]
   simp only[Option.bind]
   rw[if_pos (by omega),h4,h5,h6])
  (by intro n s _;exact⟨s,trivial,by simp[cJ]⟩) (Int.toNat 64+1) 0 s (by omega) (by simp) trivial
 obtain⟨r,_,e⟩:=h
 exact⟨r,e⟩
theorem FB(a3:bS)(o:aY)(s:aY):∃r,c7 a3 o (Int.toNat (8:Int)+1) (0:Int) s=some r:=by
 have h:=l6 (fun _ _=>True) (fun _=>True) (fun n i s=>c7 a3 o n i s) 8
  (by
   intro n i s hi hj
   left
   refine' ⟨_,trivial,_⟩
   rotate_left
   simp only[c7,aK (show i≤_ by omega)]
   rw[if_pos (by simp;omega),if_pos (by omega)])
  (by intro n s _;exact⟨s,trivial,by simp[c7]⟩) (Int.toNat 8+1) 0 s (by omega) (by simp) trivial
 obtain⟨r,_,e⟩:=h
 exact⟨r,e⟩
theorem t67(a0:Nat)(a2:aY)(a3:bS):∃r,im a0 64 a2 a3=some r:=by
 obtain⟨r1,h1⟩:=Bo a0 a2 a3 (Ty.bu gv)
 obtain⟨r2,h2⟩:=Bp a2 a3 r1
 obtain⟨r3,h3⟩:=Bq a2 a3 r2 a2
 obtain⟨r4,h4⟩:=FB a3 r3 a2
 exact⟨(r4,a3),by simp only[im,h1,h2,h3,h4,Option.bind]⟩
theorem FC(a0:List (List Int))(x1 x2:Int):∀n(k:Nat)(l:List Int)(s:aY)(b:bS),k<64→l.length<n→∃r:Int×aY×bS,(0≤r.1∧r.1<64)∧cK a0 x1 x2 n (k:Int) l s b=some r:=by
 intro n
 induction n with
 |zero=>intro k l s b _ h;omega
 |
  succ n ih=>
  intro k l s b hk hl
  simp only[cK,Int.toNat_natCast]
  by_cases h0:0<l.length
  ·obtain⟨m,em,hm⟩:∃m,min l.length (64 -k)=m∧1≤m∧m≤l.length∧m≤64 -k:=⟨_,rfl,by omega,by omega,by omega⟩
   simp only[em]
   rw[if_pos (by simp;omega),if_pos (by omega),if_pos (by omega)]
   have ew:ao ((k:Int)+(m:Int))=((k+m:Nat):Int):=by rw[aP (by omega) (by omega)];rfl
   simp only[ew]
   by_cases hw:((k+m:Nat):Int)=64
   ·rw[if_pos (by simpa using hw)]
    obtain⟨r,hr⟩:=t67 0 s (iw b (List.take m l) k)
    rw[show 64 -0=64 from rfl,hr]
    simp only[Option.bind]
    exact ih 0 _ _ _ (by omega) (by rw[jY];omega)
   ·rw[if_neg (by simpa using hw)]
    exact ih (k+m) _ _ _ (by omega) (by rw[jY];omega)
  ·rw[if_neg (by simp only[decide_eq_true_eq];omega)]
   exact⟨((k:Int),s,b),⟨by simp,by simp only[];omega⟩,rfl⟩
theorem FD(a0:List (List Int))(ha:a0.length≤1000)(hb:∀x∈a0,x.length≤1000)(s:aY)(b:bS):
 ∃r:Int×Int×aY×bS,(0≤r.1∧r.1<64)∧cp a0 (a0.length+1) 0 0 0 s b=some r:=by
 have h:=l6 (fun _(s:Int×Int×aY×bS)=>0≤s.1∧s.1<64) (fun(r:Int×Int×aY×bS)=>0≤r.1∧r.1<64) (fun n i s=>cp a0 n s.1 s.2.1 i s.2.2.1 s.2.2.2) a0.length
  (by
   intro n i s hi hP
   left
   obtain⟨k,hk⟩:∃k:Nat,s.1=(k:Int):=⟨s.1.toNat,by omega⟩
   have hl:(nth (.slice 1 (.int .u8)) a0 (i:Int)).length<cS:=by
    rw[gG hi]
    have:=hb _ (List.getElem_mem hi)
    simp only[cS];omega
   obtain⟨r,hr,e⟩:=FC a0 s.2.1 i cS k (nth (.slice 1 (.int .u8)) a0 (i:Int)) s.2.2.1 s.2.2.2 (by omega) hl
   refine' ⟨(r.1,_,r.2.1,r.2.2),hr,_⟩
   ·exact(IntKind.u64.wrap (s.2.1+(IntKind.u64.wrap ((List.length (nth (.slice 1 (.int .u8)) a0 (i:Int)):Int)))))
   simp only[cp,hk,e,aK (show i≤_ by omega)]
   rw[if_pos (by simp;omega),if_pos (by omega)]
   rfl)
  (by intro n s hP;exact⟨s,hP,by simp[cp]⟩) (a0.length+1) 0 (0,0,s,b) (by omega) (by omega) (by simp)
 exact h
theorem Br(o1:Int×Int×aY×bS)(o14:aY×bS)(s:bS):∃r,bZ o1 o14 (Int.toNat (8:Int)+1) (0:Int) s=some r:=by
 have h:=l6 (fun _ _=>True) (fun _=>True) (fun n i s=>bZ o1 o14 n i s) 8
  (by
   intro n i s hi hj
   left
   have e1:ao ((8:Int)*(i:Int))=8*i:=aP (by omega) (by omega)
   have e2:ao ((63:Int) -(i:Int))=63 -i:=aP (by omega) (by omega)
   refine' ⟨_,trivial,_⟩
   rotate_left
   simp only[bZ,e1,e2,aK (show i≤_ by omega)]
   rw[if_pos (by simp;omega),if_pos (by omega),if_pos (by omega)])
  (by intro n s _;exact⟨s,trivial,by simp[bZ]⟩) (Int.toNat 8+1) 0 s (by omega) (by simp) trivial
 obtain⟨r,_,e⟩:=h
 exact⟨r,e⟩
theorem t66(a0:List (List Int))(ha:a0.length≤1000)(hb:∀x∈a0,x.length≤1000)(s:aY):∃r,kX a0 s=some r:=by
 obtain⟨o1,ho,e1⟩:=FD a0 ha hb s (Ty.bu bq)
 have ew:ao (o1.1+(1:Int))=o1.1+1:=aP (by omega) (by omega)
 simp only[kX,e1,Option.bind]
 rw[if_pos (by omega),ew,if_pos (by omega)]
 by_cases h:(56:Int)<o1.1+1
 ·rw[if_pos (by simpa using h)]
  obtain⟨r,hr⟩:=t67 0 o1.2.2.1 (iw (List.set o1.2.2.2 (Int.toNat o1.1) (128:Int)) (List.replicate (64 -(Int.toNat (o1.1+(1:Int)))) (0:Int)) (Int.toNat (o1.1+(1:Int))))
  rw[show 64 -0=64 from rfl,hr]
  simp only[]
  obtain⟨r3,h3⟩:=Br o1 (r.1,iw r.2 (List.replicate 64 (0:Int)) 0) (iw r.2 (List.replicate 64 (0:Int)) 0)
  rw[h3]
  simp only[]
  obtain⟨r4,h4⟩:=t67 0 r.1 r3
  rw[h4]
  exact⟨_,rfl⟩
 ·rw[if_neg (by simpa using h)]
  rw[show 64 -0=64 from rfl]
  simp only[]
  obtain⟨r3,h3⟩:=Br o1 (o1.2.2.1,iw (List.set o1.2.2.2 (Int.toNat o1.1) (128:Int)) (List.replicate (64 -(Int.toNat (o1.1+(1:Int)))) (0:Int)) (Int.toNat (o1.1+(1:Int)))) (iw (List.set o1.2.2.2 (Int.toNat o1.1) (128:Int)) (List.replicate (64 -(Int.toNat (o1.1+(1:Int)))) (0:Int)) (Int.toNat (o1.1+(1:Int))))
  rw[h3]
  simp only[]
  obtain⟨r4,h4⟩:=t67 0 o1.2.2.1 r3
  rw[h4]
  exact⟨_,rfl⟩
theorem FE(y:aY)(s:bz):∃r,fw y (Int.toNat (32:Int)+1) (0:Int) s=some r:=by
 have h:=l6 (fun _ _=>True) (fun _=>True) (fun n i s=>fw y n i s) 32
  (by
   intro n i s hi hj
   left
   have e1:ao (Int.tdiv (i:Int) (4:Int))=((i / 4:Nat):Int):=by
    rw[show Int.tdiv (i:Int) 4=((i / 4:Nat):Int) from rfl];exact aP (by omega) (by omega)
   have e0:Int.tmod (i:Int) (4:Int)=((i % 4:Nat):Int):=rfl
   have e2:ao ((8:Int)*((i % 4:Nat):Int))=8*((i % 4:Nat):Int):=aP (by omega) (by omega)
   have e3:ao ((24:Int) -8*((i % 4:Nat):Int))=24 -8*((i % 4:Nat):Int):=aP (by omega) (by omega)
   refine' ⟨_,trivial,_⟩
   rotate_left
   simp only[fw,e0,e1,e2,e3,aK (show i≤_ by omega)]
   rw[if_pos (by simp;omega),if_pos (by omega),if_pos (by omega),if_pos (by omega)])
  (by intro n s _;exact⟨s,trivial,by simp[fw]⟩) (Int.toNat 32+1) 0 s (by omega) (by simp) trivial
 obtain⟨r,_,e⟩:=h
 exact⟨r,e⟩
theorem t42(a0:List (List Int))(ha:a0.length≤1000)(hb:∀x∈a0,x.length≤1000):∃r,f42 a0=some r:=by
 obtain⟨r1,h1⟩:=t66 a0 ha hb [(1779033703:Int),(3144134277:Int),(1013904242:Int),(2773480762:Int),(1359893119:Int),(2600822924:Int),(528734635:Int),(1541459225:Int)]
 obtain⟨r2,h2⟩:=FE r1 (Ty.bu aC)
 exact⟨r2,by simp only[f42,h1,h2,Option.bind]⟩
theorem bs{α β:Type}(x:α)(f:α→Option β):Option.bind (some x) f=f x:=by
 have h:=Option.bind_some x f
 exact h
theorem HG{α:Type}(l:List α)(k:Nat):ba l k l.length=l.drop k:=by
 unfold ba
 rw[List.take_of_length_le (by simp)]
end Go.Proofs.YtmpdeifdnbhdiaaGreatDoor
