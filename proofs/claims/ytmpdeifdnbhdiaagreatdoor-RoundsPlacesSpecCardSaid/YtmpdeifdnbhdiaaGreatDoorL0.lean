/- The digest never fails: each printed function of chains.Public answers at every input. No condition beyond what each theorem states. -/
import Derived.Test.YtmpdeifdnbhdiaaGreatDoorH2
import Derived.Test.YtmpdeifdnbhdiaaGreatDoorA5
namespace Go.Proofs.YtmpdeifdnbhdiaaGreatDoor
open Go.Abs
theorem rX(a b:Int):∃r,fM a b=some r:=by
 simp only[fM,Dh,Df,if_true];exact⟨_,rfl⟩
theorem JS(a0:Nat)(a2:aQ)(a3:bQ)(u:Nat)(hu:u<16)(s:dI):∃r,ca a0 64 a2 a3 (u:Int) (Int.toNat (4:Int)+1) (0:Int) s=some r:=by
 have h:=lB (fun _ _=>True) (fun _=>True) (fun n i s=>ca a0 64 a2 a3 (u:Int) n i s) 4
  (by
   intro n i s hi _
   left
   have e1:al ((4:Int)*(u:Int))=4*u:=aN (by omega) (by omega)
   have e2:al (4*(u:Int)+(i:Int))=4*u+i:=aN (by omega) (by omega)
   refine' ⟨_,trivial,_⟩
   rotate_left
   simp only[ca,e1,e2,aE (show i≤_ by omega)]
   rw[if_pos (by simp;omega),if_pos (by omega),if_pos (by omega)])
  (by intro n s _;exact⟨s,trivial,by simp[ca]⟩) (Int.toNat 4+1) 0 s (by omega) (by simp) trivial
 obtain⟨r,_,e⟩:=h
 exact⟨r,e⟩
theorem C4(a0:Nat)(a2:aQ)(a3:bQ)(s:dI):∃r,cO a0 64 a2 a3 (Int.toNat (16:Int)+1) (0:Int) s=some r:=by
 have h:=lB (fun _ _=>True) (fun _=>True) (fun n i s=>cO a0 64 a2 a3 n i s) 16
  (by
   intro n i s hi _
   left
   obtain⟨r,e⟩:=JS a0 a2 a3 i hi s
   refine⟨r,trivial,?_⟩
   simp only[cO,e,aE (show i≤_ by omega)]
   rw[if_pos (by simp;omega)];rfl)
  (by intro n s _;exact⟨s,trivial,by simp[cO]⟩) (Int.toNat 16+1) 0 s (by omega) (by simp) trivial
 obtain⟨r,_,e⟩:=h
 exact⟨r,e⟩
theorem C5(a2:aQ)(a3:bQ)(s:dI):∃r,cP a2 a3 bC (16:Int) s=some r:=by
 have h:=lB (fun i _=>16≤i) (fun _=>True) (fun n i s=>cP a2 a3 n i s) 64
  (by
   intro n i s hi hj
   left
   have e1:al ((i:Int) -15)=i -15:=aN (by omega) (by omega)
   have e2:al ((i:Int) -2)=i -2:=aN (by omega) (by omega)
   have e3:al ((i:Int) -16)=i -16:=aN (by omega) (by omega)
   have e4:al ((i:Int) -7)=i -7:=aN (by omega) (by omega)
   obtain⟨r1,h1⟩:=rX (nth (.int .u32) s ((i:Int) -15)) (-7)
   obtain⟨r2,h2⟩:=rX (nth (.int .u32) s ((i:Int) -15)) (-18)
   obtain⟨r3,h3⟩:=rX (nth (.int .u32) s ((i:Int) -2)) (-17)
   obtain⟨r4,h4⟩:=rX (nth (.int .u32) s ((i:Int) -2)) (-19)
   refine' ⟨_,by omega,_⟩
   rotate_left
   simp only[cP,e1,e2,e3,e4,aE (show i≤_ by omega)]
   rw[if_pos (by simp;omega),if_pos (by omega),if_pos (by omega),h1,h2,h3,h4]
   simp only[Option.bind]
   rw[if_pos (by omega),if_pos (by omega),if_pos (by omega)])
  (by intro n s _;exact⟨s,trivial,by simp[cP]⟩) bC 16 s (by omega) (by simp[bC]) (by omega)
 obtain⟨r,_,e⟩:=h
 exact⟨r,e⟩
theorem C6(a2:aQ)(a3:bQ)(o:dI)(s:aQ):∃r,cQ a2 a3 o (Int.toNat (64:Int)+1) (0:Int) s=some r:=by
 have h:=lB (fun _ _=>True) (fun _=>True) (fun n i s=>cQ a2 a3 o n i s) 64
  (by
   intro n i s hi hj
   left
   obtain⟨r1,h1⟩:=rX (nth (.int .u32) s 4) (-6)
   obtain⟨r2,h2⟩:=rX (nth (.int .u32) s 4) (-11)
   obtain⟨r3,h3⟩:=rX (nth (.int .u32) s 4) (-25)
   obtain⟨r4,h4⟩:=rX (nth (.int .u32) s 0) (-2)
   obtain⟨r5,h5⟩:=rX (nth (.int .u32) s 0) (-13)
   obtain⟨r6,h6⟩:=rX (nth (.int .u32) s 0) (-22)
   refine' ⟨_,trivial,_⟩
   rotate_left
   simp only[cQ,aE (show i≤_ by omega)]
   rw[if_pos (by simp;omega),h1,h2,h3]
   simp only[Option.bind]
   rw[if_pos (by omega),h4,h5,h6])
  (by intro n s _;exact⟨s,trivial,by simp[cQ]⟩) (Int.toNat 64+1) 0 s (by omega) (by simp) trivial
 obtain⟨r,_,e⟩:=h
 exact⟨r,e⟩
theorem JT(a3:bQ)(o:aQ)(s:aQ):∃r,dm a3 o (Int.toNat (8:Int)+1) (0:Int) s=some r:=by
 have h:=lB (fun _ _=>True) (fun _=>True) (fun n i s=>dm a3 o n i s) 8
  (by
   intro n i s hi hj
   left
   refine' ⟨_,trivial,_⟩
   rotate_left
   simp only[dm,aE (show i≤_ by omega)]
   rw[if_pos (by simp;omega),if_pos (by omega)])
  (by intro n s _;exact⟨s,trivial,by simp[dm]⟩) (Int.toNat 8+1) 0 s (by omega) (by simp) trivial
 obtain⟨r,_,e⟩:=h
 exact⟨r,e⟩
theorem t67(a0:Nat)(a2:aQ)(a3:bQ):∃r,iI a0 64 a2 a3=some r:=by
 obtain⟨r1,h1⟩:=C4 a0 a2 a3 (Ty.aX c8)
 obtain⟨r2,h2⟩:=C5 a2 a3 r1
 obtain⟨r3,h3⟩:=C6 a2 a3 r2 a2
 obtain⟨r4,h4⟩:=JT a3 r3 a2
 exact⟨(r4,a3),by simp only[iI,h1,h2,h3,h4,Option.bind]⟩
theorem JU(a0:List (List Int))(x1 x2:Int):∀n(k:Nat)(l:List Int)(s:aQ)(b:bQ),k<64→l.length<n→∃r:Int×aQ×bQ,(0≤r.1∧r.1<64)∧cR a0 x1 x2 n (k:Int) l s b=some r:=by
 intro n
 induction n with
 |zero=>intro k l s b _ h;omega
 |
  succ n ih=>
  intro k l s b hk hl
  simp only[cR,Int.toNat_natCast]
  by_cases h0:0<l.length
  ·obtain⟨m,em,hm⟩:∃m,min l.length (64 -k)=m∧1≤m∧m≤l.length∧m≤64 -k:=⟨_,rfl,by omega,by omega,by omega⟩
   simp only[em]
   rw[if_pos (by simp;omega),if_pos (by omega),if_pos (by omega)]
   have ew:al ((k:Int)+(m:Int))=((k+m:Nat):Int):=by rw[aN (by omega) (by omega)];rfl
   simp only[ew]
   by_cases hw:((k+m:Nat):Int)=64
   ·rw[if_pos (by simpa using hw)]
    obtain⟨r,hr⟩:=t67 0 s (iP b (List.take m l) k)
    rw[show 64 -0=64 from rfl,hr]
    simp only[Option.bind]
    exact ih 0 _ _ _ (by omega) (by rw[oQ];omega)
   ·rw[if_neg (by simpa using hw)]
    exact ih (k+m) _ _ _ (by omega) (by rw[oQ];omega)
  ·rw[if_neg (by simp only[decide_eq_true_eq];omega)]
   exact⟨((k:Int),s,b),⟨by simp,by simp only[];omega⟩,rfl⟩
theorem JV(a0:List (List Int))(ha:a0.length≤1000)(hb:∀x∈a0,x.length≤1000)(s:aQ)(b:bQ):
 ∃r:Int×Int×aQ×bQ,(0≤r.1∧r.1<64)∧cA a0 (a0.length+1) 0 0 0 s b=some r:=by
 have h:=lB (fun _(s:Int×Int×aQ×bQ)=>0≤s.1∧s.1<64) (fun(r:Int×Int×aQ×bQ)=>0≤r.1∧r.1<64) (fun n i s=>cA a0 n s.1 s.2.1 i s.2.2.1 s.2.2.2) a0.length
  (by
   intro n i s hi hP
   left
   obtain⟨k,hk⟩:∃k:Nat,s.1=(k:Int):=⟨s.1.toNat,by omega⟩
   have hl:(nth (.slice 1 (.int .u8)) a0 (i:Int)).length<bC:=by
    rw[cS hi]
    have:=hb _ (List.getElem_mem hi)
    simp only[bC];omega
   obtain⟨r,hr,e⟩:=JU a0 s.2.1 i bC k (nth (.slice 1 (.int .u8)) a0 (i:Int)) s.2.2.1 s.2.2.2 (by omega) hl
   refine' ⟨(r.1,_,r.2.1,r.2.2),hr,_⟩
   ·exact(IntKind.u64.wrap (s.2.1+(IntKind.u64.wrap ((List.length (nth (.slice 1 (.int .u8)) a0 (i:Int)):Int)))))
   simp only[cA,hk,e,aE (show i≤_ by omega)]
   rw[if_pos (by simp;omega),if_pos (by omega)]
   rfl)
  (by intro n s hP;exact⟨s,hP,by simp[cA]⟩) (a0.length+1) 0 (0,0,s,b) (by omega) (by omega) (by simp)
 exact h
theorem C7(o1:Int×Int×aQ×bQ)(o14:aQ×bQ)(s:bQ):∃r,cd o1 o14 (Int.toNat (8:Int)+1) (0:Int) s=some r:=by
 have h:=lB (fun _ _=>True) (fun _=>True) (fun n i s=>cd o1 o14 n i s) 8
  (by
   intro n i s hi hj
   left
   have e1:al ((8:Int)*(i:Int))=8*i:=aN (by omega) (by omega)
   have e2:al ((63:Int) -(i:Int))=63 -i:=aN (by omega) (by omega)
   refine' ⟨_,trivial,_⟩
   rotate_left
   simp only[cd,e1,e2,aE (show i≤_ by omega)]
   rw[if_pos (by simp;omega),if_pos (by omega),if_pos (by omega)])
  (by intro n s _;exact⟨s,trivial,by simp[cd]⟩) (Int.toNat 8+1) 0 s (by omega) (by simp) trivial
 obtain⟨r,_,e⟩:=h
 exact⟨r,e⟩
theorem t66(a0:List (List Int))(ha:a0.length≤1000)(hb:∀x∈a0,x.length≤1000)(s:aQ):∃r,lQ a0 s=some r:=by
 obtain⟨o1,ho,e1⟩:=JV a0 ha hb s (Ty.aX bP)
 have ew:al (o1.1+(1:Int))=o1.1+1:=aN (by omega) (by omega)
 simp only[lQ,e1,Option.bind]
 rw[if_pos (by omega),ew,if_pos (by omega)]
 by_cases h:(56:Int)<o1.1+1
 ·rw[if_pos (by simpa using h)]
  obtain⟨r,hr⟩:=t67 0 o1.2.2.1 (iP (List.set o1.2.2.2 (Int.toNat o1.1) (128:Int)) (List.replicate (64 -(Int.toNat (o1.1+(1:Int)))) (0:Int)) (Int.toNat (o1.1+(1:Int))))
  rw[show 64 -0=64 from rfl,hr]
  simp only[]
  obtain⟨r3,h3⟩:=C7 o1 (r.1,iP r.2 (List.replicate 64 (0:Int)) 0) (iP r.2 (List.replicate 64 (0:Int)) 0)
  rw[h3]
  simp only[]
  obtain⟨r4,h4⟩:=t67 0 r.1 r3
  rw[h4]
  exact⟨_,rfl⟩
 ·rw[if_neg (by simpa using h)]
  rw[show 64 -0=64 from rfl]
  simp only[]
  obtain⟨r3,h3⟩:=C7 o1 (o1.2.2.1,iP (List.set o1.2.2.2 (Int.toNat o1.1) (128:Int)) (List.replicate (64 -(Int.toNat (o1.1+(1:Int)))) (0:Int)) (Int.toNat (o1.1+(1:Int)))) (iP (List.set o1.2.2.2 (Int.toNat o1.1) (128:Int)) (List.replicate (64 -(Int.toNat (o1.1+(1:Int)))) (0:Int)) (Int.toNat (o1.1+(1:Int))))
  rw[h3]
  simp only[]
  obtain⟨r4,h4⟩:=t67 0 o1.2.2.1 r3
  rw[h4]
  exact⟨_,rfl⟩
theorem JW(y:aQ)(s:aO):∃r,dY y (Int.toNat (32:Int)+1) (0:Int) s=some r:=by
 have h:=lB (fun _ _=>True) (fun _=>True) (fun n i s=>dY y n i s) 32
  (by
   intro n i s hi hj
   left
   have e1:al (Int.tdiv (i:Int) (4:Int))=((i / 4:Nat):Int):=by
    rw[show Int.tdiv (i:Int) 4=((i / 4:Nat):Int) from rfl];exact aN (by omega) (by omega)
   have e0:Int.tmod (i:Int) (4:Int)=((i % 4:Nat):Int):=rfl
   have e2:al ((8:Int)*((i % 4:Nat):Int))=8*((i % 4:Nat):Int):=aN (by omega) (by omega)
   have e3:al ((24:Int) -8*((i % 4:Nat):Int))=24 -8*((i % 4:Nat):Int):=aN (by omega) (by omega)
   refine' ⟨_,trivial,_⟩
   rotate_left
   simp only[dY,e0,e1,e2,e3,aE (show i≤_ by omega)]
   rw[if_pos (by simp;omega),if_pos (by omega),if_pos (by omega),if_pos (by omega)])
  (by intro n s _;exact⟨s,trivial,by simp[dY]⟩) (Int.toNat 32+1) 0 s (by omega) (by simp) trivial
 obtain⟨r,_,e⟩:=h
 exact⟨r,e⟩
theorem bs{α β:Type}(x:α)(f:α→Option β):Option.bind (some x) f=f x:=by
 have h:=Option.bind_some x f
 exact h
theorem NQ{α:Type}(l:List α)(k:Nat):aS l k l.length=l.drop k:=by
 unfold aS
 rw[List.take_of_length_le (by simp)]
end Go.Proofs.YtmpdeifdnbhdiaaGreatDoor
