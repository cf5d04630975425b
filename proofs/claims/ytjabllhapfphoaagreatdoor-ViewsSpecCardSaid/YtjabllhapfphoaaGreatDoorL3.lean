/- The program's compression of a block is the reference's: the whole. No condition beyond what each theorem states. -/
import Derived.Test.YtjabllhapfphoaaGreatDoorL2
namespace Go.Proofs.YtjabllhapfphoaaGreatDoor
open Go.Abs
theorem GY:f308=some gW:=by kernel_rfl
theorem CS(a3:cp)(a b c d e f g h:Int)(t:Int×Int×Int×Int×Int×Int×Int×Int):cX a3 (tl t) (Int.toNat (8:Int)+1) 0 [a,b,c,d,e,f,g,h]=
 some [IntKind.u32.wrap (a+t.1),IntKind.u32.wrap (b+t.2.1),IntKind.u32.wrap (c+t.2.2.1),IntKind.u32.wrap (d+t.2.2.2.1),IntKind.u32.wrap (e+t.2.2.2.2.1),IntKind.u32.wrap (f+t.2.2.2.2.2.1),IntKind.u32.wrap (g+t.2.2.2.2.2.2.1),IntKind.u32.wrap (h+t.2.2.2.2.2.2.2)]:=by
 kernel_rfl
theorem CU(a0:aX)(o y:dV):∀n m(a b c d e f g h i:Int) r,n≤m→dG a0 o y n a b c d e f g h i=some r→dG a0 o y m a b c d e f g h i=some r:=by
 intro n
 induction n with
 |zero=>intro m a b c d e f g h i r _ hh;cases hh
 |
  succ n ih=>
  intro m a b c d e f g h i r hm hh
  obtain⟨m,rfl⟩:∃m',m=m'+1:=⟨m -1,by omega⟩
  have q6:∀a,f307 a 6=some (nE a 6):=fun a=>j7 a 6 (by omega)
  have q11:∀a,f307 a 11=some (nE a 11):=fun a=>j7 a 11 (by omega)
  have q25:∀a,f307 a 25=some (nE a 25):=fun a=>j7 a 25 (by omega)
  have q2:∀a,f307 a 2=some (nE a 2):=fun a=>j7 a 2 (by omega)
  have q13:∀a,f307 a 13=some (nE a 13):=fun a=>j7 a 13 (by omega)
  have q22:∀a,f307 a 22=some (nE a 22):=fun a=>j7 a 22 (by omega)
  simp only[dG,q6,q11,q25,q2,q13,q22,bs] at hh ⊢
  by_cases c1:decide (i<64)=true
  ·rw[if_pos c1] at hh ⊢
   by_cases c2:0≤i∧i<64
   ·rw[if_pos c2] at hh ⊢
    exact ih m _ _ _ _ _ _ _ _ _ r (by omega) hh
   ·rw[if_neg c2] at hh;cases hh
  ·rw[if_neg c1] at hh ⊢;exact hh
theorem compress(h b:List Int)(hh:h.length=8)(hb:gE b)(hl:b.length=64):∃r,r.length=8∧f281 h b=some r∧fO 0 64 h b=some (r,b):=by
 obtain⟨x0,x1,x2,x3,x4,x5,x6,x7,rfl⟩:∃x0 x1 x2 x3 x4 x5 x6 x7,h= [x0,x1,x2,x3,x4,x5,x6,x7]:=by
  match h,hh with
  |[x0,x1,x2,x3,x4,x5,x6,x7],_=>exact⟨_,_,_,_,_,_,_,_,rfl⟩
 obtain⟨m0,m1,m2,m3,m4,m5,m6,m7⟩:=Ka x0 x1 x2 x3 x4 x5 x6 x7
 obtain⟨w,hw⟩:=yC 0 [x0,x1,x2,x3,x4,x5,x6,x7] b (Ty.aS dh)
 obtain⟨w2,hw2⟩:=yD [x0,x1,x2,x3,x4,x5,x6,x7] b w
 obtain⟨o,ho⟩:=yE [x0,x1,x2,x3,x4,x5,x6,x7] b w2 [x0,x1,x2,x3,x4,x5,x6,x7]
 have g1:=words [x0,x1,x2,x3,x4,x5,x6,x7] [x0,x1,x2,x3,x4,x5,x6,x7] b hb hl (Int.toNat 16+1) bX 0 (Ty.aS dh) (by omega) (by simp) (by simp[bX]) (by rfl) (by
  intro j _ hj
  have:∀j:_root_.Fin 16,nth (.int .u32) (Ty.aS dh) (j.val:Int)=0:=by decide
  exact this ⟨j,hj⟩)
 rw[show((0:Nat):Int)=0 from rfl,hw] at g1
 have g2:=sched [x0,x1,x2,x3,x4,x5,x6,x7] b [x0,x1,x2,x3,x4,x5,x6,x7] bX 16 w
 rw[hw2] at g2
 have g3:=rounds [x0,x1,x2,x3,x4,x5,x6,x7] b w2 [x0,x1,x2,x3,x4,x5,x6,x7] (Int.toNat 64+1) 0 x0 x1 x2 x3 x4 x5 x6 x7
 rw[ho] at g3
 cases ht:dG [x0,x1,x2,x3,x4,x5,x6,x7] w2 gW (Int.toNat 64+1) x0 x1 x2 x3 x4 x5 x6 x7 0 with
 |none=>rw[ht] at g3;cases g3
 |
  some t=>
  rw[ht] at g3
  have et:o=tl t:=Option.some.inj g3
  have ht':=CU _ _ _ _ bX _ _ _ _ _ _ _ _ _ t (by simp[bX]) ht
  refine⟨[IntKind.u32.wrap (x0+t.1),IntKind.u32.wrap (x1+t.2.1),IntKind.u32.wrap (x2+t.2.2.1),IntKind.u32.wrap (x3+t.2.2.2.1),IntKind.u32.wrap (x4+t.2.2.2.2.1),IntKind.u32.wrap (x5+t.2.2.2.2.2.1),IntKind.u32.wrap (x6+t.2.2.2.2.2.2.1),IntKind.u32.wrap (x7+t.2.2.2.2.2.2.2)],rfl,?_,?_⟩
  ·unfold f281
   rw[show List.replicate 64 (0:Int)=Ty.aS dh from rfl,←g1,bs,←g2,bs,GY,bs,m0,m1,m2,m3,m4,m5,m6,m7,ht',bs]
  ·unfold fO
   rw[hw,bs,hw2,bs,ho,bs,et,CS,bs]
end Go.Proofs.YtjabllhapfphoaaGreatDoor
