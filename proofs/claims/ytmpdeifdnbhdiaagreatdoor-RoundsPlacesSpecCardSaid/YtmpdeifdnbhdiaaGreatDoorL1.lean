/- The program's compression of a block is the reference's. No condition beyond what each theorem states. -/
import Derived.Test.YtmpdeifdnbhdiaaGreatDoorL0
namespace Go.Proofs.YtmpdeifdnbhdiaaGreatDoor
open Go.Abs
theorem Ba(x y:Int):aq .or .u32 x y=aq .or .u32 y x:=by
 simp only[aq,BitVec.or_comm]
theorem Q8(a:Int)(k:Nat)(h1:1≤k)(h2:k≤31):fM a (-(k:Int))=da a k:=by
 have e1:aq .and .u64 (IntKind.u64.wrap (-(k:Int))) (31:Int)=32 -(k:Int):=by
  have:∀k:_root_.Fin 32,1≤k.val→aq .and .u64 (IntKind.u64.wrap (-(k.val:Int))) (31:Int)=32 -(k.val:Int):=by decide
  exact this ⟨k,by omega⟩ h1
 have e2:IntKind.u64.wrap ((32:Int) -(32 -(k:Int)))=k:=by
  simp only[IntKind.wrap,IntKind.bits,IntKind.signed]
  simp
  omega
 have e3:al ((32:Int) -(k:Int))=32 -(k:Int):=aN (by omega) (by omega)
 unfold fM da
 rw[e1,e2,e3,if_pos (by omega),if_pos (by omega),if_pos (by omega),if_pos (by omega),Ba]
def nt(a:Int)(k:Nat):Int:=aq .or .u32 (Int.fdiv a (2^(min k 32))) (IntKind.u32.wrap (a*2^(min (32 -k) 32)))
theorem kf(a:Int)(k:Nat)(h2:k≤31):da a k=some (nt a k):=by
 have e3:al ((32:Int) -(k:Int))=((32 -k:Nat):Int):=by rw[aN (by omega) (by omega)];omega
 unfold da nt
 rw[e3,if_pos (by omega),if_pos (by omega),Int.toNat_natCast,Int.toNat_natCast]
theorem sb(a:Int)(k:Nat)(h1:1≤k)(h2:k≤31):fM a (-(k:Int))=some (nt a k):=by
 rw[Q8 a k h1 h2,kf a k h2]
theorem sched(a2:aQ)(a3:bQ)(a0:aQ):∀n i s,cP a2 a3 n i s=gk a0 n i s:=by
 intro n
 induction n with
 |zero=>intro i s;rfl
 |
  succ n ih=>
  intro i s
  have p7:∀a,fM a (-7)=some (nt a 7):=fun a=>sb a 7 (by omega) (by omega)
  have p18:∀a,fM a (-18)=some (nt a 18):=fun a=>sb a 18 (by omega) (by omega)
  have p17:∀a,fM a (-17)=some (nt a 17):=fun a=>sb a 17 (by omega) (by omega)
  have p19:∀a,fM a (-19)=some (nt a 19):=fun a=>sb a 19 (by omega) (by omega)
  have q7:∀a,da a 7=some (nt a 7):=fun a=>kf a 7 (by omega)
  have q18:∀a,da a 18=some (nt a 18):=fun a=>kf a 18 (by omega)
  have q17:∀a,da a 17=some (nt a 17):=fun a=>kf a 17 (by omega)
  have N3:∀a,da a 19=some (nt a 19):=fun a=>kf a 19 (by omega)
  simp only[cP,gk,ih,p7,p18,p17,p19,q7,q18,q17,N3,bs]
theorem n32(a b c d e f g h:Int):nth (.int .u32) [a,b,c,d,e,f,g,h] 0=a∧nth (.int .u32) [a,b,c,d,e,f,g,h] 1=b∧nth (.int .u32) [a,b,c,d,e,f,g,h] 2=c∧nth (.int .u32) [a,b,c,d,e,f,g,h] 3=d∧nth (.int .u32) [a,b,c,d,e,f,g,h] 4=e∧nth (.int .u32) [a,b,c,d,e,f,g,h] 5=f∧nth (.int .u32) [a,b,c,d,e,f,g,h] 6=g∧nth (.int .u32) [a,b,c,d,e,f,g,h] 7=h:=⟨rfl,rfl,rfl,rfl,rfl,rfl,rfl,rfl⟩
def tl(t:Int×Int×Int×Int×Int×Int×Int×Int):List Int:=[t.1,t.2.1,t.2.2.1,t.2.2.2.1,t.2.2.2.2.1,t.2.2.2.2.2.1,t.2.2.2.2.2.2.1,t.2.2.2.2.2.2.2]
theorem rounds(a2:aQ)(a3:bQ)(o8:dI)(a0:aQ):∀n i(a b c d e f g h:Int),cQ a2 a3 o8 n i [a,b,c,d,e,f,g,h]=(dC a0 o8 gV n a b c d e f g h i).map tl:=by
 intro n
 induction n with
 |zero=>intro i a b c d e f g h;rfl
 |
  succ n ih=>
  intro i a b c d e f g h
  obtain⟨m0,m1,m2,m3,m4,m5,m6,m7⟩:=n32 a b c d e f g h
  have p6:∀a,fM a (-6)=some (nt a 6):=fun a=>sb a 6 (by omega) (by omega)
  have p11:∀a,fM a (-11)=some (nt a 11):=fun a=>sb a 11 (by omega) (by omega)
  have p25:∀a,fM a (-25)=some (nt a 25):=fun a=>sb a 25 (by omega) (by omega)
  have p2:∀a,fM a (-2)=some (nt a 2):=fun a=>sb a 2 (by omega) (by omega)
  have p13:∀a,fM a (-13)=some (nt a 13):=fun a=>sb a 13 (by omega) (by omega)
  have p22:∀a,fM a (-22)=some (nt a 22):=fun a=>sb a 22 (by omega) (by omega)
  have q6:∀a,da a 6=some (nt a 6):=fun a=>kf a 6 (by omega)
  have FR:∀a,da a 11=some (nt a 11):=fun a=>kf a 11 (by omega)
  have q25:∀a,da a 25=some (nt a 25):=fun a=>kf a 25 (by omega)
  have q2:∀a,da a 2=some (nt a 2):=fun a=>kf a 2 (by omega)
  have Jf:∀a,da a 13=some (nt a 13):=fun a=>kf a 13 (by omega)
  have Km:∀a,da a 22=some (nt a 22):=fun a=>kf a 22 (by omega)
  simp only[cQ,dC,m0,m1,m2,m3,m4,m5,m6,m7,p6,p11,p25,p2,p13,p22,q6,FR,q25,q2,Jf,Km,bs,ih]
  by_cases c1:decide (i<64)=true
  ·rw[if_pos c1,if_pos c1]
   by_cases c2:0≤i∧i<64
   ·rw[if_pos c2,if_pos c2]
   ·rw[if_neg c2,if_neg c2];rfl
  ·rw[if_neg c1,if_neg c1];rfl
end Go.Proofs.YtmpdeifdnbhdiaaGreatDoor
