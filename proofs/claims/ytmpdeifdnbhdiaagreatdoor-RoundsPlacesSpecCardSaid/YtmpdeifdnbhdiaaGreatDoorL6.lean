/- The program's digest of parts is the reference's digest of the whole: the padding. No condition beyond what each theorem states. -/
import Derived.Test.YtmpdeifdnbhdiaaGreatDoorL5
namespace Go.Proofs.YtmpdeifdnbhdiaaGreatDoor
open Go.Abs
def lb(n i:Nat):Int:=IntKind.u8.wrap (Int.fdiv (IntKind.u64.wrap ((n:Int)*8)) (2^(min (8*i) 64)))
def fJ(n:Nat):List Int:=[lb n 7,lb n 6,lb n 5,lb n 4,lb n 3,lb n 2,lb n 1,lb n 0]
def cD(n:Nat):Nat:=(119 -n % 64) % 64
def pad(T:List Int):List Int:=T++([128]++(List.replicate (cD T.length) 0++fJ T.length))
theorem xF(x:Int):0≤IntKind.u8.wrap x∧IntKind.u8.wrap x<256:=by
 simp only[IntKind.wrap,IntKind.bits,IntKind.signed]
 simp
 omega
theorem nD(n:Nat):gN (fJ n):=by
 intro x hx
 simp only[fJ,List.mem_cons,List.not_mem_nil,or_false] at hx
 rcases hx with h|h|h|h|h|h|h|h<;>(rw[h];exact xF _)
theorem pj(n:Nat):gN (List.replicate n 0):=by
 intro x hx
 have:x=0:=List.eq_of_mem_replicate hx
 omega
theorem ID:gN [128]:=by
 intro x hx
 have:x=128:=by simpa using hx
 omega
theorem DW(a0:List Int):∀z n(x:List Int),z<n→(x.length+z) % 64=56→(∀j,j<z→(x.length+j) % 64≠56)→x.length+z≤az→iC a0 n x=some (x++List.replicate z 0):=by
 intro z
 induction z with
 |
  zero=>
  intro n x hn h1 _ _
  obtain⟨n,rfl⟩:∃m,n=m+1:=⟨n -1,by omega⟩
  simp only[iC]
  rw[if_neg (by
   have:Int.tmod (x.length:Int) 64=((x.length % 64:Nat):Int):=rfl
   rw[this];simp;omega)]
  simp
 |
  succ z ih=>
  intro n x hn h1 h2 h3
  obtain⟨n,rfl⟩:∃m,n=m+1:=⟨n -1,by omega⟩
  simp only[iC]
  rw[if_pos (by
   have:Int.tmod (x.length:Int) 64=((x.length % 64:Nat):Int):=rfl
   have:=h2 0 (by omega)
   rw[‹Int.tmod (x.length:Int) 64=_›];simp;omega),if_pos (by simp only[List.length_cons,List.length_nil];omega)]
  have hl:(x++[(0:Int)]).length=x.length+1:=by simp
  rw[ih n (x++[0]) (by omega) (by rw[hl];omega) (by
   intro j hj
   have:=h2 (j+1) (by omega)
   rw[hl];intro hh;apply this;omega) (by rw[hl];omega)]
  rw[List.append_assoc]
  rfl
theorem FU(a0:List Int)(n i:Nat)(x:List Int)(hi:i≤7)(hx:x.length+1≤az)(ha:a0.length≤az):gf a0 (n+1) (i:Int) x=gf a0 n ((i:Int) -1) (x++[lb a0.length i]):=by
 have e1:al ((8:Int)*(i:Int))=((8*i:Nat):Int):=by rw[aN (by omega) (by omega)];omega
 have e2:al ((i:Int) -1)=(i:Int) -1:=aN (by omega) (by omega)
 simp only[az] at hx ha
 simp only[gf,e1,e2,uN (x:=(a0.length:Int)) (by omega) (by omega),Int.toNat_natCast]
 rw[if_pos (by rw[decide_eq_true_eq];omega),if_pos (by omega),if_pos (by simp only[List.length_cons,List.length_nil,az];omega)]
 rfl
theorem DX(a0 x:List Int)(hx:x.length+8≤az)(ha:a0.length≤az):gf a0 bC 7 x=some (x++fJ a0.length):=by
 obtain⟨m,hm⟩:∃m,bC=m+9:=⟨bC -9,by simp[bC]⟩
 rw[hm]
 have k7:=FU a0 (m+8) 7 x (by omega) (by omega) ha
 have k6:=FU a0 (m+7) 6 (x++[lb a0.length 7]) (by omega) (by simp;omega) ha
 have k5:=FU a0 (m+6) 5 (x++[lb a0.length 7]++[lb a0.length 6]) (by omega) (by simp;omega) ha
 have k4:=FU a0 (m+5) 4 (x++[lb a0.length 7]++[lb a0.length 6]++[lb a0.length 5]) (by omega) (by simp;omega) ha
 have k3:=FU a0 (m+4) 3 (x++[lb a0.length 7]++[lb a0.length 6]++[lb a0.length 5]++[lb a0.length 4]) (by omega) (by simp;omega) ha
 have k2:=FU a0 (m+3) 2 (x++[lb a0.length 7]++[lb a0.length 6]++[lb a0.length 5]++[lb a0.length 4]++[lb a0.length 3]) (by omega) (by simp;omega) ha
 have k1:=FU a0 (m+2) 1 (x++[lb a0.length 7]++[lb a0.length 6]++[lb a0.length 5]++[lb a0.length 4]++[lb a0.length 3]++[lb a0.length 2]) (by omega) (by simp;omega) ha
 have k0:=FU a0 (m+1) 0 (x++[lb a0.length 7]++[lb a0.length 6]++[lb a0.length 5]++[lb a0.length 4]++[lb a0.length 3]++[lb a0.length 2]++[lb a0.length 1]) (by omega) (by simp;omega) ha
 rw[show(7:Int)=((7:Nat):Int) from rfl,k7,show((7:Nat):Int) -1=((6:Nat):Int) from rfl,k6,show((6:Nat):Int) -1=((5:Nat):Int) from rfl,k5,show((5:Nat):Int) -1=((4:Nat):Int) from rfl,k4,show((4:Nat):Int) -1=((3:Nat):Int) from rfl,k3,show((3:Nat):Int) -1=((2:Nat):Int) from rfl,k2,show((2:Nat):Int) -1=((1:Nat):Int) from rfl,k1,show((1:Nat):Int) -1=((0:Nat):Int) from rfl,k0,show((0:Nat):Int) -1=(-1:Int) from rfl]
 simp only[gf]
 rw[if_neg (by simp)]
 simp only[List.append_assoc,fJ]
 rfl
theorem Og(T:List Int)(h:T.length≤100000000000):B0 T=some (pad T):=by
 have hz:cD T.length<64:=Nat.mod_lt _ (by omega)
 have hl:(T++[(128:Int)]).length=T.length+1:=by simp
 unfold B0
 rw[if_pos (by simp[az];omega),if_pos (by simp[az];omega)]
 rw[DW T (cD T.length) bC (T++[128]) (by simp only[bC];omega) (by rw[hl];simp only[cD];omega) (by
  intro j hj
  rw[hl];simp only[cD] at hj;omega) (by rw[hl];simp only[az];omega),bs]
 rw[DX T _ (by simp[az];omega) (by simp only[az];omega),bs]
 simp only[pad,List.append_assoc]
theorem yQ{T:List Int}(h:gN T):gN (pad T):=h.append (ID.append ((pj _).append (nD _)))
theorem tN(T:List Int):(pad T).length=64*((T.length+72) / 64):=by
 simp only[pad,List.length_append,List.length_cons,List.length_nil,List.length_replicate,fJ,cD]
 omega
theorem IE(y:List Int)(m:Nat)(hy:y.length=64*m)(hb:gN y)(hm:y.length≤4611686018427387904):∀d n(j:Nat)(h:List Int),m -j=d→j≤m→d<n→h.length=8→kB y n ((64*j:Nat):Int) h=some (run d h (y.drop (64*j))):=by
 intro d
 induction d with
 |
  zero=>
  intro n j h hd hj hn _
  obtain⟨n,rfl⟩:∃k,n=k+1:=⟨n -1,by omega⟩
  simp only[kB]
  rw[if_neg (by rw[decide_eq_true_eq];omega)]
  rfl
 |
  succ d ih=>
  intro n j h hd hj hn hh
  obtain⟨n,rfl⟩:∃k,n=k+1:=⟨n -1,by omega⟩
  have e1:al (((64*j:Nat):Int)+64)=((64*(j+1):Nat):Int):=by rw[aN (by omega) (by omega)];omega
  simp only[kB,e1]
  rw[if_pos (by rw[decide_eq_true_eq];omega),if_pos (by omega),Int.toNat_natCast,Int.toNat_natCast]
  have hc:aS y (64*j) (64*(j+1))=(y.drop (64*j)).take 64:=by
   unfold aS;rw[show 64*(j+1) -64*j=64 by omega]
  have hcl:((y.drop (64*j)).take 64).length=64:=by rw[List.length_take,List.length_drop];omega
  obtain⟨g1,g2,_⟩:=nJ h _ hh ((hb.drop (64*j)).take 64) hcl
  rw[hc,g2,bs,ih n (j+1) _ (by omega) (by omega) (by omega) g1]
  simp only[run]
  rw[List.drop_drop,show 64*j+64=64*(j+1) by omega]
theorem IF(y:aQ):∀n i s,dY y n i s=iN y n i s:=by
 intro n
 induction n with
 |zero=>intro i s;rfl
 |succ n ih=>intro i s;simp only[dY,iN,ih]
theorem IG(y:aQ):∀n m i s r,n≤m→iN y n i s=some r→iN y m i s=some r:=by
 intro n
 induction n with
 |zero=>intro m i s r _ h;cases h
 |
  succ n ih=>
  intro m i s r hm h
  obtain⟨m,rfl⟩:∃k,m=k+1:=⟨m -1,by omega⟩
  simp only[iN] at h ⊢
  split at h
  ·rename_i c1
   rw[if_pos c1]
   split at h
   ·rename_i c2
    rw[if_pos c2]
    split at h
    ·rename_i c3
     rw[if_pos c3]
     split at h
     ·rename_i c4
      rw[if_pos c4]
      exact ih m _ _ r (by omega) h
     ·cases h
    ·cases h
   ·cases h
  ·rename_i c1
   rw[if_neg c1];exact h
end Go.Proofs.YtmpdeifdnbhdiaaGreatDoor
