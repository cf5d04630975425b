/- The program's compression of a block is the reference's: the whole. No condition beyond what each theorem states. -/
import Derived.Test.YtmpdeifdnbhdiaaGreatDoorL2
namespace Go.Proofs.YtmpdeifdnbhdiaaGreatDoor
open Go.Abs
theorem Gi:f171=some gF:=by kernel_rfl
theorem EC(a3:bS)(a b c d e f g h:Int)(t:Int×Int×Int×Int×Int×Int×Int×Int):c7 a3 (tl t) (Int.toNat (8:Int)+1) 0 [a,b,c,d,e,f,g,h]=
 some [IntKind.u32.wrap (a+t.1),IntKind.u32.wrap (b+t.2.1),IntKind.u32.wrap (c+t.2.2.1),IntKind.u32.wrap (d+t.2.2.2.1),IntKind.u32.wrap (e+t.2.2.2.2.1),IntKind.u32.wrap (f+t.2.2.2.2.2.1),IntKind.u32.wrap (g+t.2.2.2.2.2.2.1),IntKind.u32.wrap (h+t.2.2.2.2.2.2.2)]:=by
 kernel_rfl
theorem Cw(a0:aY)(o y:ec):∀n m(a b c d e f g h i:Int) r,n≤m→fe a0 o y n a b c d e f g h i=some r→fe a0 o y m a b c d e f g h i=some r:=by
 intro n
 induction n with
 |zero=>intro m a b c d e f g h i r _ hh;cases hh
 |
  succ n ih=>
  intro m a b c d e f g h i r hm hh
  obtain⟨m,rfl⟩:∃m',m=m'+1:=⟨m -1,by omega⟩
  have q6:∀a,f170 a 6=some (mF a 6):=fun a=>jJ a 6 (by omega)
  have q11:∀a,f170 a 11=some (mF a 11):=fun a=>jJ a 11 (by omega)
  have q25:∀a,f170 a 25=some (mF a 25):=fun a=>jJ a 25 (by omega)
  have q2:∀a,f170 a 2=some (mF a 2):=fun a=>jJ a 2 (by omega)
  have q13:∀a,f170 a 13=some (mF a 13):=fun a=>jJ a 13 (by omega)
  have q22:∀a,f170 a 22=some (mF a 22):=fun a=>jJ a 22 (by omega)
  simp only[fe,q6,q11,q25,q2,q13,q22,bs] at hh ⊢
  by_cases c1:decide (i<64)=true
  ·rw[if_pos c1] at hh ⊢
   by_cases c2:0≤i∧i<64
   ·rw[if_pos c2] at hh ⊢
    exact ih m _ _ _ _ _ _ _ _ _ r (by omega) hh
   ·rw[if_neg c2] at hh;cases hh
  ·rw[if_neg c1] at hh ⊢;exact hh
theorem compress(h b:List Int)(hh:h.length=8)(hb:jG b)(hl:b.length=64):∃r,r.length=8∧f119 h b=some r∧im 0 64 h b=some (r,b):=by
 obtain⟨x0,x1,x2,x3,x4,x5,x6,x7,rfl⟩:∃x0 x1 x2 x3 x4 x5 x6 x7,h= [x0,x1,x2,x3,x4,x5,x6,x7]:=by
  match h,hh with
  |[x0,x1,x2,x3,x4,x5,x6,x7],_=>exact⟨_,_,_,_,_,_,_,_,rfl⟩
 obtain⟨m0,m1,m2,m3,m4,m5,m6,m7⟩:=n32 x0 x1 x2 x3 x4 x5 x6 x7
 obtain⟨w,hw⟩:=Bo 0 [x0,x1,x2,x3,x4,x5,x6,x7] b (Ty.bu gv)
 obtain⟨w2,hw2⟩:=Bp [x0,x1,x2,x3,x4,x5,x6,x7] b w
 obtain⟨o,ho⟩:=Bq [x0,x1,x2,x3,x4,x5,x6,x7] b w2 [x0,x1,x2,x3,x4,x5,x6,x7]
 have g1:=words [x0,x1,x2,x3,x4,x5,x6,x7] [x0,x1,x2,x3,x4,x5,x6,x7] b hb hl (Int.toNat 16+1) cS 0 (Ty.bu gv) (by omega) (by simp) (by simp[cS]) (by rfl) (by
  intro j _ hj
  have:∀j:_root_.Fin 16,nth (.int .u32) (Ty.bu gv) (j.val:Int)=0:=by decide
  exact this ⟨j,hj⟩)
 rw[show((0:Nat):Int)=0 from rfl,hw] at g1
 have g2:=sched [x0,x1,x2,x3,x4,x5,x6,x7] b [x0,x1,x2,x3,x4,x5,x6,x7] cS 16 w
 rw[hw2] at g2
 have g3:=rounds [x0,x1,x2,x3,x4,x5,x6,x7] b w2 [x0,x1,x2,x3,x4,x5,x6,x7] (Int.toNat 64+1) 0 x0 x1 x2 x3 x4 x5 x6 x7
 rw[ho] at g3
 cases ht:fe [x0,x1,x2,x3,x4,x5,x6,x7] w2 gF (Int.toNat 64+1) x0 x1 x2 x3 x4 x5 x6 x7 0 with
 |none=>rw[ht] at g3;cases g3
 |
  some t=>
  rw[ht] at g3
  have et:o=tl t:=Option.some.inj g3
  have ht':=Cw _ _ _ _ cS _ _ _ _ _ _ _ _ _ t (by simp[cS]) ht
  refine⟨[IntKind.u32.wrap (x0+t.1),IntKind.u32.wrap (x1+t.2.1),IntKind.u32.wrap (x2+t.2.2.1),IntKind.u32.wrap (x3+t.2.2.2.1),IntKind.u32.wrap (x4+t.2.2.2.2.1),IntKind.u32.wrap (x5+t.2.2.2.2.2.1),IntKind.u32.wrap (x6+t.2.2.2.2.2.2.1),IntKind.u32.wrap (x7+t.2.2.2.2.2.2.2)],rfl,?_,?_⟩
  ·unfold f119
   rw[show List.replicate 64 (0:Int)=Ty.bu gv from rfl,←g1,bs,←g2,bs,Gi,bs,m0,m1,m2,m3,m4,m5,m6,m7,ht',bs]
  ·unfold im
   rw[hw,bs,hw2,bs,ho,bs,et,EC,bs]
end Go.Proofs.YtmpdeifdnbhdiaaGreatDoor
