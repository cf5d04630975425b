/- The program's compression of a block is the reference's: the whole. No condition beyond what each theorem states. -/
import Derived.Test.YtmpdeifdnbhdiaaGreatDoorL2
namespace Go.Proofs.YtmpdeifdnbhdiaaGreatDoor
open Go.Abs
theorem KF:El=some gV:=by kernel_rfl
theorem I4(a3:bQ)(a b c d e f g h:Int)(t:Int×Int×Int×Int×Int×Int×Int×Int):dm a3 (tl t) (Int.toNat (8:Int)+1) 0 [a,b,c,d,e,f,g,h]=
 some [IntKind.u32.wrap (a+t.1),IntKind.u32.wrap (b+t.2.1),IntKind.u32.wrap (c+t.2.2.1),IntKind.u32.wrap (d+t.2.2.2.1),IntKind.u32.wrap (e+t.2.2.2.2.1),IntKind.u32.wrap (f+t.2.2.2.2.2.1),IntKind.u32.wrap (g+t.2.2.2.2.2.2.1),IntKind.u32.wrap (h+t.2.2.2.2.2.2.2)]:=by
 kernel_rfl
theorem Ej(a0:aQ)(o y:dI):∀n m(a b c d e f g h i:Int) r,n≤m→dC a0 o y n a b c d e f g h i=some r→dC a0 o y m a b c d e f g h i=some r:=by
 intro n
 induction n with
 |zero=>intro m a b c d e f g h i r _ hh;cases hh
 |
  succ n ih=>
  intro m a b c d e f g h i r hm hh
  obtain⟨m,rfl⟩:∃m',m=m'+1:=⟨m -1,by omega⟩
  have q6:∀a,da a 6=some (nt a 6):=fun a=>kf a 6 (by omega)
  have FR:∀a,da a 11=some (nt a 11):=fun a=>kf a 11 (by omega)
  have q25:∀a,da a 25=some (nt a 25):=fun a=>kf a 25 (by omega)
  have q2:∀a,da a 2=some (nt a 2):=fun a=>kf a 2 (by omega)
  have Jf:∀a,da a 13=some (nt a 13):=fun a=>kf a 13 (by omega)
  have Km:∀a,da a 22=some (nt a 22):=fun a=>kf a 22 (by omega)
  simp only[dC,q6,FR,q25,q2,Jf,Km,bs] at hh ⊢
  by_cases c1:decide (i<64)=true
  ·rw[if_pos c1] at hh ⊢
   by_cases c2:0≤i∧i<64
   ·rw[if_pos c2] at hh ⊢
    exact ih m _ _ _ _ _ _ _ _ _ r (by omega) hh
   ·rw[if_neg c2] at hh;cases hh
  ·rw[if_neg c1] at hh ⊢;exact hh
theorem compress(h b:List Int)(hh:h.length=8)(hb:gN b)(hl:b.length=64):∃r,r.length=8∧wR h b=some r∧iI 0 64 h b=some (r,b):=by
 obtain⟨x0,x1,x2,x3,x4,x5,x6,x7,rfl⟩:∃x0 x1 x2 x3 x4 x5 x6 x7,h= [x0,x1,x2,x3,x4,x5,x6,x7]:=by
  match h,hh with
  |[x0,x1,x2,x3,x4,x5,x6,x7],_=>exact⟨_,_,_,_,_,_,_,_,rfl⟩
 obtain⟨m0,m1,m2,m3,m4,m5,m6,m7⟩:=n32 x0 x1 x2 x3 x4 x5 x6 x7
 obtain⟨w,hw⟩:=C4 0 [x0,x1,x2,x3,x4,x5,x6,x7] b (Ty.aX c8)
 obtain⟨w2,hw2⟩:=C5 [x0,x1,x2,x3,x4,x5,x6,x7] b w
 obtain⟨o,ho⟩:=C6 [x0,x1,x2,x3,x4,x5,x6,x7] b w2 [x0,x1,x2,x3,x4,x5,x6,x7]
 have g1:=words [x0,x1,x2,x3,x4,x5,x6,x7] [x0,x1,x2,x3,x4,x5,x6,x7] b hb hl (Int.toNat 16+1) bC 0 (Ty.aX c8) (by omega) (by simp) (by simp[bC]) (by rfl) (by
  intro j _ hj
  have:∀j:_root_.Fin 16,nth (.int .u32) (Ty.aX c8) (j.val:Int)=0:=by decide
  exact this ⟨j,hj⟩)
 rw[show((0:Nat):Int)=0 from rfl,hw] at g1
 have g2:=sched [x0,x1,x2,x3,x4,x5,x6,x7] b [x0,x1,x2,x3,x4,x5,x6,x7] bC 16 w
 rw[hw2] at g2
 have g3:=rounds [x0,x1,x2,x3,x4,x5,x6,x7] b w2 [x0,x1,x2,x3,x4,x5,x6,x7] (Int.toNat 64+1) 0 x0 x1 x2 x3 x4 x5 x6 x7
 rw[ho] at g3
 cases ht:dC [x0,x1,x2,x3,x4,x5,x6,x7] w2 gV (Int.toNat 64+1) x0 x1 x2 x3 x4 x5 x6 x7 0 with
 |none=>rw[ht] at g3;cases g3
 |
  some t=>
  rw[ht] at g3
  have et:o=tl t:=Option.some.inj g3
  have ht':=Ej _ _ _ _ bC _ _ _ _ _ _ _ _ _ t (by simp[bC]) ht
  refine⟨[IntKind.u32.wrap (x0+t.1),IntKind.u32.wrap (x1+t.2.1),IntKind.u32.wrap (x2+t.2.2.1),IntKind.u32.wrap (x3+t.2.2.2.1),IntKind.u32.wrap (x4+t.2.2.2.2.1),IntKind.u32.wrap (x5+t.2.2.2.2.2.1),IntKind.u32.wrap (x6+t.2.2.2.2.2.2.1),IntKind.u32.wrap (x7+t.2.2.2.2.2.2.2)],rfl,?_,?_⟩
  ·unfold wR
   rw[show List.replicate 64 (0:Int)=Ty.aX c8 from rfl,←g1,bs,←g2,bs,KF,bs,m0,m1,m2,m3,m4,m5,m6,m7,ht',bs]
  ·unfold iI
   rw[hw,bs,hw2,bs,ho,bs,et,I4,bs]
end Go.Proofs.YtmpdeifdnbhdiaaGreatDoor
