/- The digest never fails: each printed function of chains.Public answers at every input. No condition beyond what each theorem states. -/
import Derived.Test.YtjabllhapfphoaaGreatDoorH2
import Derived.Test.YtjabllhapfphoaaGreatDoorA5
namespace Go.Proofs.YtjabllhapfphoaaGreatDoor
open Go.Abs
theorem t279(a b:Int):∃r,f279 a b=some r:=by
 simp only[f279,Cw,Cv,if_true];exact⟨_,rfl⟩
theorem Dn(a0:Nat)(a2:aX)(a3:cp)(u:Nat)(hu:u<16)(s:dV):∃r,bR a0 64 a2 a3 (u:Int) (Int.toNat (4:Int)+1) (0:Int) s=some r:=by
 have h:=cE (fun _ _=>True) (fun _=>True) (fun n i s=>bR a0 64 a2 a3 (u:Int) n i s) 4
  (by
   intro n i s hi _
   left
   have e1:aP ((4:Int)*(u:Int))=4*u:=bm (by omega) (by omega)
   have e2:aP (4*(u:Int)+(i:Int))=4*u+i:=bm (by omega) (by omega)
   refine' ⟨_,trivial,_⟩
   rotate_left
   simp only[bR,e1,e2,aJ (show i≤_ by omega)]
   rw[if_pos (by simp;omega),if_pos (by omega),if_pos (by omega)])
  (by intro n s _;exact⟨s,trivial,by simp[bR]⟩) (Int.toNat 4+1) 0 s (by omega) (by simp) trivial
 obtain⟨r,_,e⟩:=h
 exact⟨r,e⟩
theorem yC(a0:Nat)(a2:aX)(a3:cp)(s:dV):∃r,cJ a0 64 a2 a3 (Int.toNat (16:Int)+1) (0:Int) s=some r:=by
 have h:=cE (fun _ _=>True) (fun _=>True) (fun n i s=>cJ a0 64 a2 a3 n i s) 16
  (by
   intro n i s hi _
   left
   obtain⟨r,e⟩:=Dn a0 a2 a3 i hi s
   refine⟨r,trivial,?_⟩
   simp only[cJ,e,aJ (show i≤_ by omega)]
   rw[if_pos (by simp;omega)];rfl)
  (by intro n s _;exact⟨s,trivial,by simp[cJ]⟩) (Int.toNat 16+1) 0 s (by omega) (by simp) trivial
 obtain⟨r,_,e⟩:=h
 exact⟨r,e⟩
theorem yD(a2:aX)(a3:cp)(s:dV):∃r,cK a2 a3 bX (16:Int) s=some r:=by
 have h:=cE (fun i _=>16≤i) (fun _=>True) (fun n i s=>cK a2 a3 n i s) 64
  (by
   intro n i s hi hj
   left
   have e1:aP ((i:Int) -15)=i -15:=bm (by omega) (by omega)
   have e2:aP ((i:Int) -2)=i -2:=bm (by omega) (by omega)
   have e3:aP ((i:Int) -16)=i -16:=bm (by omega) (by omega)
   have e4:aP ((i:Int) -7)=i -7:=bm (by omega) (by omega)
   obtain⟨r1,h1⟩:=t279 (nth (.int .u32) s ((i:Int) -15)) (-7)
   obtain⟨r2,h2⟩:=t279 (nth (.int .u32) s ((i:Int) -15)) (-18)
   obtain⟨r3,h3⟩:=t279 (nth (.int .u32) s ((i:Int) -2)) (-17)
   obtain⟨r4,h4⟩:=t279 (nth (.int .u32) s ((i:Int) -2)) (-19)
   refine' ⟨_,by omega,_⟩
   rotate_left
   simp only[cK,e1,e2,e3,e4,aJ (show i≤_ by omega)]
   rw[if_pos (by simp;omega),if_pos (by omega),if_pos (by omega),h1,h2,h3,h4]
   simp only[Option.bind]
   rw[if_pos (by omega),if_pos (by omega),if_pos (by omega)])
  (by intro n s _;exact⟨s,trivial,by simp[cK]⟩) bX 16 s (by omega) (by simp[bX]) (by omega)
 obtain⟨r,_,e⟩:=h
 exact⟨r,e⟩
theorem yE(a2:aX)(a3:cp)(o:dV)(s:aX):∃r,cL a2 a3 o (Int.toNat (64:Int)+1) (0:Int) s=some r:=by
 have h:=cE (fun _ _=>True) (fun _=>True) (fun n i s=>cL a2 a3 o n i s) 64
  (by
   intro n i s hi hj
   left
   obtain⟨r1,h1⟩:=t279 (nth (.int .u32) s 4) (-6)
   obtain⟨r2,h2⟩:=t279 (nth (.int .u32) s 4) (-11)
   obtain⟨r3,h3⟩:=t279 (nth (.int .u32) s 4) (-25)
   obtain⟨r4,h4⟩:=t279 (nth (.int .u32) s 0) (-2)
   obtain⟨r5,h5⟩:=t279 (nth (.int .u32) s 0) (-13)
   obtain⟨r6,h6⟩:=t279 (nth (.int .u32) s 0) (-22)
   refine' ⟨_,trivial,_⟩
   rotate_left
   simp only[cL,aJ (show i≤_ by omega)]
   rw[if_pos (by simp;omega),h1,h2,h3]
   simp only[Option.bind]
   rw[if_pos (by omega),h4,h5,h6])
  (by intro n s _;exact⟨s,trivial,by simp[cL]⟩) (Int.toNat 64+1) 0 s (by omega) (by simp) trivial
 obtain⟨r,_,e⟩:=h
 exact⟨r,e⟩
theorem Dp(a3:cp)(o:aX)(s:aX):∃r,cX a3 o (Int.toNat (8:Int)+1) (0:Int) s=some r:=by
 have h:=cE (fun _ _=>True) (fun _=>True) (fun n i s=>cX a3 o n i s) 8
  (by
   intro n i s hi hj
   left
   refine' ⟨_,trivial,_⟩
   rotate_left
   simp only[cX,aJ (show i≤_ by omega)]
   rw[if_pos (by simp;omega),if_pos (by omega)])
  (by intro n s _;exact⟨s,trivial,by simp[cX]⟩) (Int.toNat 8+1) 0 s (by omega) (by simp) trivial
 obtain⟨r,_,e⟩:=h
 exact⟨r,e⟩
theorem t217(a0:Nat)(a2:aX)(a3:cp):∃r,fO a0 64 a2 a3=some r:=by
 obtain⟨r1,h1⟩:=yC a0 a2 a3 (Ty.aS dh)
 obtain⟨r2,h2⟩:=yD a2 a3 r1
 obtain⟨r3,h3⟩:=yE a2 a3 r2 a2
 obtain⟨r4,h4⟩:=Dp a3 r3 a2
 exact⟨(r4,a3),by simp only[fO,h1,h2,h3,h4,Option.bind]⟩
theorem Dq(a0:List (List Int))(x1 x2:Int):∀n(k:Nat)(l:List Int)(s:aX)(b:cp),k<64→l.length<n→∃r:Int×aX×cp,(0≤r.1∧r.1<64)∧cM a0 x1 x2 n (k:Int) l s b=some r:=by
 intro n
 induction n with
 |zero=>intro k l s b _ h;omega
 |
  succ n ih=>
  intro k l s b hk hl
  simp only[cM,Int.toNat_natCast]
  by_cases h0:0<l.length
  ·obtain⟨m,em,hm⟩:∃m,min l.length (64 -k)=m∧1≤m∧m≤l.length∧m≤64 -k:=⟨_,rfl,by omega,by omega,by omega⟩
   simp only[em]
   rw[if_pos (by simp;omega),if_pos (by omega),if_pos (by omega)]
   have ew:aP ((k:Int)+(m:Int))=((k+m:Nat):Int):=by rw[bm (by omega) (by omega)];rfl
   simp only[ew]
   by_cases hw:((k+m:Nat):Int)=64
   ·rw[if_pos (by simpa using hw)]
    obtain⟨r,hr⟩:=t217 0 s (iK b (List.take m l) k)
    rw[show 64 -0=64 from rfl,hr]
    simp only[Option.bind]
    exact ih 0 _ _ _ (by omega) (by rw[oQ];omega)
   ·rw[if_neg (by simpa using hw)]
    exact ih (k+m) _ _ _ (by omega) (by rw[oQ];omega)
  ·rw[if_neg (by simp only[decide_eq_true_eq];omega)]
   exact⟨((k:Int),s,b),⟨by simp,by simp only[];omega⟩,rfl⟩
theorem Dr(a0:List (List Int))(ha:a0.length≤1000)(hb:∀x∈a0,x.length≤1000)(s:aX)(b:cp):
 ∃r:Int×Int×aX×cp,(0≤r.1∧r.1<64)∧cd a0 (a0.length+1) 0 0 0 s b=some r:=by
 have h:=cE (fun _(s:Int×Int×aX×cp)=>0≤s.1∧s.1<64) (fun(r:Int×Int×aX×cp)=>0≤r.1∧r.1<64) (fun n i s=>cd a0 n s.1 s.2.1 i s.2.2.1 s.2.2.2) a0.length
  (by
   intro n i s hi hP
   left
   obtain⟨k,hk⟩:∃k:Nat,s.1=(k:Int):=⟨s.1.toNat,by omega⟩
   have hl:(nth (.slice 1 (.int .u8)) a0 (i:Int)).length<bX:=by
    rw[aR hi]
    have:=hb _ (List.getElem_mem hi)
    simp only[bX];omega
   obtain⟨r,hr,e⟩:=Dq a0 s.2.1 i bX k (nth (.slice 1 (.int .u8)) a0 (i:Int)) s.2.2.1 s.2.2.2 (by omega) hl
   refine' ⟨(r.1,_,r.2.1,r.2.2),hr,_⟩
   ·exact(IntKind.u64.wrap (s.2.1+(IntKind.u64.wrap ((List.length (nth (.slice 1 (.int .u8)) a0 (i:Int)):Int)))))
   simp only[cd,hk,e,aJ (show i≤_ by omega)]
   rw[if_pos (by simp;omega),if_pos (by omega)]
   rfl)
  (by intro n s hP;exact⟨s,hP,by simp[cd]⟩) (a0.length+1) 0 (0,0,s,b) (by omega) (by omega) (by simp)
 exact h
theorem yF(o1:Int×Int×aX×cp)(o14:aX×cp)(s:cp):∃r,bS o1 o14 (Int.toNat (8:Int)+1) (0:Int) s=some r:=by
 have h:=cE (fun _ _=>True) (fun _=>True) (fun n i s=>bS o1 o14 n i s) 8
  (by
   intro n i s hi hj
   left
   have e1:aP ((8:Int)*(i:Int))=8*i:=bm (by omega) (by omega)
   have e2:aP ((63:Int) -(i:Int))=63 -i:=bm (by omega) (by omega)
   refine' ⟨_,trivial,_⟩
   rotate_left
   simp only[bS,e1,e2,aJ (show i≤_ by omega)]
   rw[if_pos (by simp;omega),if_pos (by omega),if_pos (by omega)])
  (by intro n s _;exact⟨s,trivial,by simp[bS]⟩) (Int.toNat 8+1) 0 s (by omega) (by simp) trivial
 obtain⟨r,_,e⟩:=h
 exact⟨r,e⟩
theorem t216(a0:List (List Int))(ha:a0.length≤1000)(hb:∀x∈a0,x.length≤1000)(s:aX):∃r,jk a0 s=some r:=by
 obtain⟨o1,ho,e1⟩:=Dr a0 ha hb s (Ty.aS bA)
 have ew:aP (o1.1+(1:Int))=o1.1+1:=bm (by omega) (by omega)
 simp only[jk,e1,Option.bind]
 rw[if_pos (by omega),ew,if_pos (by omega)]
 by_cases h:(56:Int)<o1.1+1
 ·rw[if_pos (by simpa using h)]
  obtain⟨r,hr⟩:=t217 0 o1.2.2.1 (iK (List.set o1.2.2.2 (Int.toNat o1.1) (128:Int)) (List.replicate (64 -(Int.toNat (o1.1+(1:Int)))) (0:Int)) (Int.toNat (o1.1+(1:Int))))
  rw[show 64 -0=64 from rfl,hr]
  simp only[]
  obtain⟨r3,h3⟩:=yF o1 (r.1,iK r.2 (List.replicate 64 (0:Int)) 0) (iK r.2 (List.replicate 64 (0:Int)) 0)
  rw[h3]
  simp only[]
  obtain⟨r4,h4⟩:=t217 0 r.1 r3
  rw[h4]
  exact⟨_,rfl⟩
 ·rw[if_neg (by simpa using h)]
  rw[show 64 -0=64 from rfl]
  simp only[]
  obtain⟨r3,h3⟩:=yF o1 (o1.2.2.1,iK (List.set o1.2.2.2 (Int.toNat o1.1) (128:Int)) (List.replicate (64 -(Int.toNat (o1.1+(1:Int)))) (0:Int)) (Int.toNat (o1.1+(1:Int)))) (iK (List.set o1.2.2.2 (Int.toNat o1.1) (128:Int)) (List.replicate (64 -(Int.toNat (o1.1+(1:Int)))) (0:Int)) (Int.toNat (o1.1+(1:Int))))
  rw[h3]
  simp only[]
  obtain⟨r4,h4⟩:=t217 0 o1.2.2.1 r3
  rw[h4]
  exact⟨_,rfl⟩
theorem Ds(y:aX)(s:aU):∃r,c7 y (Int.toNat (32:Int)+1) (0:Int) s=some r:=by
 have h:=cE (fun _ _=>True) (fun _=>True) (fun n i s=>c7 y n i s) 32
  (by
   intro n i s hi hj
   left
   have e1:aP (Int.tdiv (i:Int) (4:Int))=((i / 4:Nat):Int):=by
    rw[show Int.tdiv (i:Int) 4=((i / 4:Nat):Int) from rfl];exact bm (by omega) (by omega)
   have e0:Int.tmod (i:Int) (4:Int)=((i % 4:Nat):Int):=rfl
   have e2:aP ((8:Int)*((i % 4:Nat):Int))=8*((i % 4:Nat):Int):=bm (by omega) (by omega)
   have e3:aP ((24:Int) -8*((i % 4:Nat):Int))=24 -8*((i % 4:Nat):Int):=bm (by omega) (by omega)
   refine' ⟨_,trivial,_⟩
   rotate_left
   simp only[c7,e0,e1,e2,e3,aJ (show i≤_ by omega)]
   rw[if_pos (by simp;omega),if_pos (by omega),if_pos (by omega),if_pos (by omega)])
  (by intro n s _;exact⟨s,trivial,by simp[c7]⟩) (Int.toNat 32+1) 0 s (by omega) (by simp) trivial
 obtain⟨r,_,e⟩:=h
 exact⟨r,e⟩
theorem bs{α β:Type}(x:α)(f:α→Option β):Option.bind (some x) f=f x:=by
 have h:=Option.bind_some x f
 exact h
theorem Hl{α:Type}(l:List α)(k:Nat):aW l k l.length=l.drop k:=by
 unfold aW
 rw[List.take_of_length_le (by simp)]
end Go.Proofs.YtjabllhapfphoaaGreatDoor
