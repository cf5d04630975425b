/- The program's compression of a block is the reference's. No condition beyond what each theorem states. -/
import Derived.Test.YtjabllhapfphoaaGreatDoorL0
namespace Go.Proofs.YtjabllhapfphoaaGreatDoor
open Go.Abs
theorem Au(x y:Int):aC .or .u32 x y=aC .or .u32 y x:=by
 simp only[aC,BitVec.or_comm]
theorem LP(a:Int)(k:Nat)(h1:1≤k)(h2:k≤31):f279 a (-(k:Int))=f307 a k:=by
 have e1:aC .and .u64 (IntKind.u64.wrap (-(k:Int))) (31:Int)=32 -(k:Int):=by
  have:∀k:_root_.Fin 32,1≤k.val→aC .and .u64 (IntKind.u64.wrap (-(k.val:Int))) (31:Int)=32 -(k.val:Int):=by decide
  exact this ⟨k,by omega⟩ h1
 have e2:IntKind.u64.wrap ((32:Int) -(32 -(k:Int)))=k:=by
  simp only[IntKind.wrap,IntKind.bits,IntKind.signed]
  simp
  omega
 have e3:aP ((32:Int) -(k:Int))=32 -(k:Int):=bm (by omega) (by omega)
 unfold f279 f307
 rw[e1,e2,e3,if_pos (by omega),if_pos (by omega),if_pos (by omega),if_pos (by omega),Au]
def nE(a:Int)(k:Nat):Int:=aC .or .u32 (Int.fdiv a (2^(min k 32))) (IntKind.u32.wrap (a*2^(min (32 -k) 32)))
theorem j7(a:Int)(k:Nat)(h2:k≤31):f307 a k=some (nE a k):=by
 have e3:aP ((32:Int) -(k:Int))=((32 -k:Nat):Int):=by rw[bm (by omega) (by omega)];omega
 unfold f307 nE
 rw[e3,if_pos (by omega),if_pos (by omega),Int.toNat_natCast,Int.toNat_natCast]
theorem rR(a:Int)(k:Nat)(h1:1≤k)(h2:k≤31):f279 a (-(k:Int))=some (nE a k):=by
 rw[LP a k h1 h2,j7 a k h2]
theorem sched(a2:aX)(a3:cp)(a0:aX):∀n i s,cK a2 a3 n i s=fT a0 n i s:=by
 intro n
 induction n with
 |zero=>intro i s;rfl
 |
  succ n ih=>
  intro i s
  have p7:∀a,f279 a (-7)=some (nE a 7):=fun a=>rR a 7 (by omega) (by omega)
  have p18:∀a,f279 a (-18)=some (nE a 18):=fun a=>rR a 18 (by omega) (by omega)
  have p17:∀a,f279 a (-17)=some (nE a 17):=fun a=>rR a 17 (by omega) (by omega)
  have p19:∀a,f279 a (-19)=some (nE a 19):=fun a=>rR a 19 (by omega) (by omega)
  have q7:∀a,f307 a 7=some (nE a 7):=fun a=>j7 a 7 (by omega)
  have q18:∀a,f307 a 18=some (nE a 18):=fun a=>j7 a 18 (by omega)
  have q17:∀a,f307 a 17=some (nE a 17):=fun a=>j7 a 17 (by omega)
  have q19:∀a,f307 a 19=some (nE a 19):=fun a=>j7 a 19 (by omega)
  simp only[cK,fT,ih,p7,p18,p17,p19,q7,q18,q17,q19,bs]
theorem Ka(a b c d e f g h:Int):nth (.int .u32) [a,b,c,d,e,f,g,h] 0=a∧nth (.int .u32) [a,b,c,d,e,f,g,h] 1=b∧nth (.int .u32) [a,b,c,d,e,f,g,h] 2=c∧nth (.int .u32) [a,b,c,d,e,f,g,h] 3=d∧nth (.int .u32) [a,b,c,d,e,f,g,h] 4=e∧nth (.int .u32) [a,b,c,d,e,f,g,h] 5=f∧nth (.int .u32) [a,b,c,d,e,f,g,h] 6=g∧nth (.int .u32) [a,b,c,d,e,f,g,h] 7=h:=⟨rfl,rfl,rfl,rfl,rfl,rfl,rfl,rfl⟩
def tl(t:Int×Int×Int×Int×Int×Int×Int×Int):List Int:=[t.1,t.2.1,t.2.2.1,t.2.2.2.1,t.2.2.2.2.1,t.2.2.2.2.2.1,t.2.2.2.2.2.2.1,t.2.2.2.2.2.2.2]
theorem rounds(a2:aX)(a3:cp)(o8:dV)(a0:aX):∀n i(a b c d e f g h:Int),cL a2 a3 o8 n i [a,b,c,d,e,f,g,h]=(dG a0 o8 gW n a b c d e f g h i).map tl:=by
 intro n
 induction n with
 |zero=>intro i a b c d e f g h;rfl
 |
  succ n ih=>
  intro i a b c d e f g h
  obtain⟨m0,m1,m2,m3,m4,m5,m6,m7⟩:=Ka a b c d e f g h
  have p6:∀a,f279 a (-6)=some (nE a 6):=fun a=>rR a 6 (by omega) (by omega)
  have p11:∀a,f279 a (-11)=some (nE a 11):=fun a=>rR a 11 (by omega) (by omega)
  have p25:∀a,f279 a (-25)=some (nE a 25):=fun a=>rR a 25 (by omega) (by omega)
  have p2:∀a,f279 a (-2)=some (nE a 2):=fun a=>rR a 2 (by omega) (by omega)
  have p13:∀a,f279 a (-13)=some (nE a 13):=fun a=>rR a 13 (by omega) (by omega)
  have p22:∀a,f279 a (-22)=some (nE a 22):=fun a=>rR a 22 (by omega) (by omega)
  have q6:∀a,f307 a 6=some (nE a 6):=fun a=>j7 a 6 (by omega)
  have q11:∀a,f307 a 11=some (nE a 11):=fun a=>j7 a 11 (by omega)
  have q25:∀a,f307 a 25=some (nE a 25):=fun a=>j7 a 25 (by omega)
  have q2:∀a,f307 a 2=some (nE a 2):=fun a=>j7 a 2 (by omega)
  have q13:∀a,f307 a 13=some (nE a 13):=fun a=>j7 a 13 (by omega)
  have q22:∀a,f307 a 22=some (nE a 22):=fun a=>j7 a 22 (by omega)
  simp only[cL,dG,m0,m1,m2,m3,m4,m5,m6,m7,p6,p11,p25,p2,p13,p22,q6,q11,q25,q2,q13,q22,bs,ih]
  by_cases c1:decide (i<64)=true
  ·rw[if_pos c1,if_pos c1]
   by_cases c2:0≤i∧i<64
   ·rw[if_pos c2,if_pos c2]
   ·rw[if_neg c2,if_neg c2];rfl
  ·rw[if_neg c1,if_neg c1];rfl
end Go.Proofs.YtjabllhapfphoaaGreatDoor
