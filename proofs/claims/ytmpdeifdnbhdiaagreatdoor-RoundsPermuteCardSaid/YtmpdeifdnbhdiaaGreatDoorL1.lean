/- The program's compression of a block is the reference's. No condition beyond what each theorem states. -/
import Derived.Test.YtmpdeifdnbhdiaaGreatDoorL0
namespace Go.Proofs.YtmpdeifdnbhdiaaGreatDoor
open Go.Abs
theorem zy(x y:Int):an .or .u32 x y=an .or .u32 y x:=by
 simp only[an,BitVec.or_comm]
theorem KK(a:Int)(k:Nat)(h1:1≤k)(h2:k≤31):f111 a (-(k:Int))=f170 a k:=by
 have e1:an .and .u64 (IntKind.u64.wrap (-(k:Int))) (31:Int)=32 -(k:Int):=by
  have:∀k:_root_.Fin 32,1≤k.val→an .and .u64 (IntKind.u64.wrap (-(k.val:Int))) (31:Int)=32 -(k.val:Int):=by decide
  exact this ⟨k,by omega⟩ h1
 have e2:IntKind.u64.wrap ((32:Int) -(32 -(k:Int)))=k:=by
  simp only[IntKind.wrap,IntKind.bits,IntKind.signed]
  simp
  omega
 have e3:ao ((32:Int) -(k:Int))=32 -(k:Int):=aP (by omega) (by omega)
 unfold f111 f170
 rw[e1,e2,e3,if_pos (by omega),if_pos (by omega),if_pos (by omega),if_pos (by omega),zy]
def mF(a:Int)(k:Nat):Int:=an .or .u32 (Int.fdiv a (2^(min k 32))) (IntKind.u32.wrap (a*2^(min (32 -k) 32)))
theorem jJ(a:Int)(k:Nat)(h2:k≤31):f170 a k=some (mF a k):=by
 have e3:ao ((32:Int) -(k:Int))=((32 -k:Nat):Int):=by rw[aP (by omega) (by omega)];omega
 unfold f170 mF
 rw[e3,if_pos (by omega),if_pos (by omega),Int.toNat_natCast,Int.toNat_natCast]
theorem qN(a:Int)(k:Nat)(h1:1≤k)(h2:k≤31):f111 a (-(k:Int))=some (mF a k):=by
 rw[KK a k h1 h2,jJ a k h2]
theorem sched(a2:aY)(a3:bS)(a0:aY):∀n i s,cI a2 a3 n i s=jr a0 n i s:=by
 intro n
 induction n with
 |zero=>intro i s;rfl
 |
  succ n ih=>
  intro i s
  have p7:∀a,f111 a (-7)=some (mF a 7):=fun a=>qN a 7 (by omega) (by omega)
  have p18:∀a,f111 a (-18)=some (mF a 18):=fun a=>qN a 18 (by omega) (by omega)
  have p17:∀a,f111 a (-17)=some (mF a 17):=fun a=>qN a 17 (by omega) (by omega)
  have p19:∀a,f111 a (-19)=some (mF a 19):=fun a=>qN a 19 (by omega) (by omega)
  have q7:∀a,f170 a 7=some (mF a 7):=fun a=>jJ a 7 (by omega)
  have q18:∀a,f170 a 18=some (mF a 18):=fun a=>jJ a 18 (by omega)
  have q17:∀a,f170 a 17=some (mF a 17):=fun a=>jJ a 17 (by omega)
  have q19:∀a,f170 a 19=some (mF a 19):=fun a=>jJ a 19 (by omega)
  simp only[cI,jr,ih,p7,p18,p17,p19,q7,q18,q17,q19,bs]
theorem n32(a b c d e f g h:Int):nth (.int .u32) [a,b,c,d,e,f,g,h] 0=a∧nth (.int .u32) [a,b,c,d,e,f,g,h] 1=b∧nth (.int .u32) [a,b,c,d,e,f,g,h] 2=c∧nth (.int .u32) [a,b,c,d,e,f,g,h] 3=d∧nth (.int .u32) [a,b,c,d,e,f,g,h] 4=e∧nth (.int .u32) [a,b,c,d,e,f,g,h] 5=f∧nth (.int .u32) [a,b,c,d,e,f,g,h] 6=g∧nth (.int .u32) [a,b,c,d,e,f,g,h] 7=h:=⟨rfl,rfl,rfl,rfl,rfl,rfl,rfl,rfl⟩
def tl(t:Int×Int×Int×Int×Int×Int×Int×Int):List Int:=[t.1,t.2.1,t.2.2.1,t.2.2.2.1,t.2.2.2.2.1,t.2.2.2.2.2.1,t.2.2.2.2.2.2.1,t.2.2.2.2.2.2.2]
theorem rounds(a2:aY)(a3:bS)(o8:ec)(a0:aY):∀n i(a b c d e f g h:Int),cJ a2 a3 o8 n i [a,b,c,d,e,f,g,h]=(fe a0 o8 gF n a b c d e f g h i).map tl:=by
 intro n
 induction n with
 |zero=>intro i a b c d e f g h;rfl
 |
  succ n ih=>
  intro i a b c d e f g h
  obtain⟨m0,m1,m2,m3,m4,m5,m6,m7⟩:=n32 a b c d e f g h
  have p6:∀a,f111 a (-6)=some (mF a 6):=fun a=>qN a 6 (by omega) (by omega)
  have p11:∀a,f111 a (-11)=some (mF a 11):=fun a=>qN a 11 (by omega) (by omega)
  have p25:∀a,f111 a (-25)=some (mF a 25):=fun a=>qN a 25 (by omega) (by omega)
  have p2:∀a,f111 a (-2)=some (mF a 2):=fun a=>qN a 2 (by omega) (by omega)
  have p13:∀a,f111 a (-13)=some (mF a 13):=fun a=>qN a 13 (by omega) (by omega)
  have p22:∀a,f111 a (-22)=some (mF a 22):=fun a=>qN a 22 (by omega) (by omega)
  have q6:∀a,f170 a 6=some (mF a 6):=fun a=>jJ a 6 (by omega)
  have q11:∀a,f170 a 11=some (mF a 11):=fun a=>jJ a 11 (by omega)
  have q25:∀a,f170 a 25=some (mF a 25):=fun a=>jJ a 25 (by omega)
  have q2:∀a,f170 a 2=some (mF a 2):=fun a=>jJ a 2 (by omega)
  have q13:∀a,f170 a 13=some (mF a 13):=fun a=>jJ a 13 (by omega)
  have q22:∀a,f170 a 22=some (mF a 22):=fun a=>jJ a 22 (by omega)
  simp only[cJ,fe,m0,m1,m2,m3,m4,m5,m6,m7,p6,p11,p25,p2,p13,p22,q6,q11,q25,q2,q13,q22,bs,ih]
  by_cases c1:decide (i<64)=true
  ·rw[if_pos c1,if_pos c1]
   by_cases c2:0≤i∧i<64
   ·rw[if_pos c2,if_pos c2]
   ·rw[if_neg c2,if_neg c2];rfl
  ·rw[if_neg c1,if_neg c1];rfl
end Go.Proofs.YtmpdeifdnbhdiaaGreatDoor
