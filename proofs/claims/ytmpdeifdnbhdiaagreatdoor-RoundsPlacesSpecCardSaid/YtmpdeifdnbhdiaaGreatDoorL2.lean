/- The program's compression of a block is the reference's: the whole. No condition beyond what each theorem states. -/
import Derived.Test.YtmpdeifdnbhdiaaGreatDoorL1
namespace Go.Proofs.YtmpdeifdnbhdiaaGreatDoor
open Go.Abs
theorem iH{x:Int}(h1:0≤x)(h2:x<4294967296):IntKind.u32.wrap x=x:=by
 simp only[IntKind.wrap,IntKind.bits,IntKind.signed]
 simp
 omega
theorem tY(m y k:Nat)(hy:y<2^k)(h:m*2^k+y<4294967296):aq .or .u32 ((m*2^k:Nat):Int) (y:Int)=((m*2^k+y:Nat):Int):=by
 have h2:m*2^k<2^32:=by omega
 have h3:y<2^32:=by omega
 show IntKind.u32.wrap (((BitVec.ofInt 32 ((m*2^k:Nat):Int)) ||| (BitVec.ofInt 32 (y:Int))).toNat:Int)=_
 rw[BitVec.ofInt_natCast,BitVec.ofInt_natCast,BitVec.toNat_or,BitVec.toNat_ofNat,BitVec.toNat_ofNat]
 rw[Nat.mod_eq_of_lt h2,Nat.mod_eq_of_lt h3,←Nat.shiftLeft_eq,←Nat.shiftLeft_add_eq_or_of_lt hy,Nat.shiftLeft_eq]
 exact iH (by omega) (by omega)
def word(b0 b1 b2 b3:Nat):Nat:=((b0*2^8+b1)*2^8+b2)*2^8+b3
theorem Kz(b0 b1 b2 b3:Nat)(h0:b0<256)(h1:b1<256)(h2:b2<256)(h3:b3<256):B1 [(b0:Int),(b1:Int),(b2:Int),(b3:Int)]=some (word b0 b1 b2 b3:Int):=by
 unfold B1
 simp only[List.length_cons,List.length_nil]
 rw[if_pos (by omega),if_pos (by omega),if_pos (by omega),if_pos (by omega)]
 have m0:nth (.int .u8) [(b0:Int),(b1:Int),(b2:Int),(b3:Int)] 0=(b0:Int):=rfl
 have m1:nth (.int .u8) [(b0:Int),(b1:Int),(b2:Int),(b3:Int)] 1=(b1:Int):=rfl
 have m2:nth (.int .u8) [(b0:Int),(b1:Int),(b2:Int),(b3:Int)] 2=(b2:Int):=rfl
 have m3:nth (.int .u8) [(b0:Int),(b1:Int),(b2:Int),(b3:Int)] 3=(b3:Int):=rfl
 rw[m0,m1,m2,m3]
 rw[iH (x:=(b0:Int)) (by omega) (by omega),iH (x:=(b1:Int)) (by omega) (by omega),iH (x:=(b2:Int)) (by omega) (by omega),iH (x:=(b3:Int)) (by omega) (by omega)]
 have k24:(2:Int)^(min (Int.toNat (24:Int)) 32)=16777216:=rfl
 have k16:(2:Int)^(min (Int.toNat (16:Int)) 32)=65536:=rfl
 have k8:(2:Int)^(min (Int.toNat (8:Int)) 32)=256:=rfl
 rw[k24,k16,k8,iH (x:=(b0:Int)*16777216) (by omega) (by omega),iH (x:=(b1:Int)*65536) (by omega) (by omega),iH (x:=(b2:Int)*256) (by omega) (by omega)]
 have g1:=tY b0 (b1*65536) 24 (by omega) (by omega)
 have g2:=tY (b0*256+b1) (b2*256) 16 (by omega) (by omega)
 have g3:=tY ((b0*256+b1)*256+b2) b3 8 (by omega) (by omega)
 rw[show(b0:Int)*16777216=((b0*2^24:Nat):Int) from by omega,show(b1:Int)*65536=((b1*65536:Nat):Int) from by omega,g1]
 rw[show((b0*2^24+b1*65536:Nat):Int)=(((b0*256+b1)*2^16:Nat):Int) from by omega,show(b2:Int)*256=((b2*256:Nat):Int) from by omega,g2]
 rw[show(((b0*256+b1)*2^16+b2*256:Nat):Int)=((((b0*256+b1)*256+b2)*2^8:Nat):Int) from by omega,g3]
 congr 1
theorem pq(a2:aQ)(b:bQ)(i j n:Nat)(hi:i<16)(hj:j<4)(s:dI)(_hs:s.length=64)(v bj:Nat)(hv:nth (.int .u32) s (i:Int)=(v:Int))(hv24:v<16777216)
 (hb:List.getD b (4*i+j) (Ty.aX (.int .u8))=(bj:Int)) (hbj:bj<256):
 ca 0 64 a2 b (i:Int) (n+1) (j:Int) s=ca 0 64 a2 b (i:Int) n ((j+1:Nat):Int) (List.set s i ((v*2^8+bj:Nat):Int)):=by
 have e1:al ((4:Int)*(i:Int))=4*i:=aN (by omega) (by omega)
 have e2:al (4*(i:Int)+(j:Int))=((4*i+j:Nat):Int):=by rw[aN (by omega) (by omega)];omega
 simp only[ca,e1,e2,aE (show j≤_ by omega),Int.toNat_natCast,Nat.zero_add,hv,hb]
 rw[if_pos (by rw[decide_eq_true_eq];omega),if_pos (by omega),if_pos (by omega)]
 have k8:(2:Int)^(min (Int.toNat (8:Int)) 32)=256:=rfl
 rw[k8,iH (x:=(v:Int)*256) (by omega) (by omega),iH (x:=(bj:Int)) (by omega) (by omega),show(v:Int)*256=((v*2^8:Nat):Int) from by omega,tY v bj 8 (by omega) (by omega)]
theorem jv(s:List Int)(i:Nat)(x:Int)(h:i<s.length):nth (.int .u32) (List.set s i x) (i:Int)=x:=by
 rw[cS (t:=.int .u32) (show i<(List.set s i x).length by rw[List.length_set];exact h)]
 exact List.getElem_set_self _
theorem IV(a2:aQ)(b:bQ)(i:Nat)(hi:i<16)(s:dI)(hs:s.length=64)(hz:nth (.int .u32) s (i:Int)=0)(b0 b1 b2 b3:Nat)
 (h0:b0<256) (h1:b1<256) (h2:b2<256) (h3:b3<256)
 (g0:List.getD b (4*i+0) (Ty.aX (.int .u8))=(b0:Int)) (g1:List.getD b (4*i+1) (Ty.aX (.int .u8))=(b1:Int)) (g2:List.getD b (4*i+2) (Ty.aX (.int .u8))=(b2:Int)) (g3:List.getD b (4*i+3) (Ty.aX (.int .u8))=(b3:Int)):
 ca 0 64 a2 b (i:Int) (Int.toNat (4:Int)+1) (0:Int) s=some (List.set s i (word b0 b1 b2 b3:Int)):=by
 rw[show Int.toNat (4:Int)+1=4+1 from rfl,show(0:Int)=((0:Nat):Int) from rfl]
 rw[pq a2 b i 0 4 hi (by omega) s hs 0 b0 hz (by omega) g0 h0]
 rw[pq a2 b i 1 3 hi (by omega) _ (by rw[List.length_set];exact hs) (0*2^8+b0) b1 (jv _ _ _ (by omega)) (by omega) g1 h1,List.set_set]
 rw[pq a2 b i 2 2 hi (by omega) _ (by rw[List.length_set];exact hs) _ b2 (jv _ _ _ (by omega)) (by omega) g2 h2,List.set_set]
 rw[pq a2 b i 3 1 hi (by omega) _ (by rw[List.length_set];exact hs) _ b3 (jv _ _ _ (by omega)) (by omega) g3 h3,List.set_set]
 simp only[ca]
 rw[if_neg (by rw[decide_eq_true_eq];omega)]
 simp only[word,Nat.zero_mul,Nat.zero_add]
def gN(b:List Int):Prop:=∀x∈b,0≤x∧x<256
theorem gN.at{b:List Int}(h:gN b){j:Nat}(hj:j<b.length):∃v:Nat,v<256∧List.getD b j (Ty.aX (.int .u8))=(v:Int)∧b[j]=(v:Int):=by
 have:=h _ (List.getElem_mem hj)
 refine⟨b[j].toNat,by omega,?_,by omega⟩
 rw[List.getD_eq_getElem?_getD,List.getElem?_eq_getElem hj]
 show b[j]=_
 omega
theorem KA(b:List Int)(k:Nat)(h:k+3<b.length):aS b k (k+4)= [b[k],b[k+1],b[k+2],b[k+3]]:=by
 unfold aS
 rw[show k+4 -k=4 by omega,List.drop_eq_getElem_cons (by omega),List.drop_eq_getElem_cons (by omega),List.drop_eq_getElem_cons (by omega),List.drop_eq_getElem_cons (show k+1+1+1<b.length by omega)]
 rfl
theorem words(a2 a0:aQ)(b:List Int)(hb:gN b)(hl:b.length=64):∀n m(i:Nat)(s:List Int),i≤16→16 -i<n→16 -i<m→s.length=64→(∀j:Nat,i≤j→j<16→nth (.int .u32) s (j:Int)=0)→
 cO 0 64 a2 b n (i:Int) s=gj a0 b m (i:Int) s:=by
 intro n
 induction n with
 |zero=>intro m i s _ h;omega
 |
  succ n ih=>
  intro m i s hi hn hm hs hz
  obtain⟨m,rfl⟩:∃m',m=m'+1:=⟨m -1,by omega⟩
  simp only[cO,gj]
  by_cases h:i<16
  ·rw[if_pos (by rw[decide_eq_true_eq];omega),if_pos (by rw[decide_eq_true_eq];omega)]
   obtain⟨b0,h0,g0,k0⟩:=hb.at (show 4*i+0<b.length by omega)
   obtain⟨b1,h1,g1,k1⟩:=hb.at (show 4*i+1<b.length by omega)
   obtain⟨b2,h2,g2,k2⟩:=hb.at (show 4*i+2<b.length by omega)
   obtain⟨b3,h3,g3,k3⟩:=hb.at (show 4*i+3<b.length by omega)
   rw[IV a2 b i h s hs (hz i (by omega) h) b0 b1 b2 b3 h0 h1 h2 h3 g0 g1 g2 g3,bs,bs]
   have e1:al ((4:Int)*(i:Int))=((4*i:Nat):Int):=by rw[aN (by omega) (by omega)];omega
   have e2:al (((4*i:Nat):Int)+4)=((4*i+4:Nat):Int):=by rw[aN (by omega) (by omega)];omega
   rw[e1,e2,if_pos (by omega),Int.toNat_natCast,Int.toNat_natCast,KA b (4*i) (by omega)]
   have k0':b[4*i]=(b0:Int):=k0
   rw[k0',k1,k2,k3,Kz b0 b1 b2 b3 h0 h1 h2 h3,bs,if_pos (by omega),Int.toNat_natCast,aE (by omega)]
   refine ih m (i+1) _ (by omega) (by omega) (by omega) (by rw[List.length_set];exact hs) ?_
   intro j hj hj2
   have hjs:j<s.length:=by omega
   rw[cS (t:=.int .u32) (show j<(List.set s i _).length by rw[List.length_set];exact hjs)]
   have:=hz j (by omega) hj2
   rw[cS (t:=.int .u32) hjs] at this
   rw[List.getElem_set_ne (by omega)]
   exact this
  ·rw[if_neg (by rw[decide_eq_true_eq];omega),if_neg (by rw[decide_eq_true_eq];omega)]
end Go.Proofs.YtmpdeifdnbhdiaaGreatDoor
