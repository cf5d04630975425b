/- Looking for a credential, without what only says that nothing else was changed. No condition. -/
import Derived.Test.YtgdcjlldafmomaaGreatF7
import Derived.Test.YtgdcjlldafmomaaGreatA5
noncomputable section
namespace Go.Proofs.YtgdcjlldafmomaaGreat
open Go.Ax
abbrev Ix:=Zd
theorem sQ(u:Int×Int×bL×Ix×Int×Int×Bool×(Ze)×Unit×(Zj)×(Zi)×(Zh)×fQ×Cf×(Zl)):
 ∀(n:Nat)(a:Int)(c:Zl) (o),kT n (u.1,a,u.2.2.1,u.2.2.2.1,u.2.2.2.2.1,u.2.2.2.2.2.1,u.2.2.2.2.2.2.1,u.2.2.2.2.2.2.2.1,u.2.2.2.2.2.2.2.2.1,u.2.2.2.2.2.2.2.2.2.1,u.2.2.2.2.2.2.2.2.2.2.1,u.2.2.2.2.2.2.2.2.2.2.2.1,u.2.2.2.2.2.2.2.2.2.2.2.2.1,u.2.2.2.2.2.2.2.2.2.2.2.2.2.1,c)=some o→
  ∃w,o= .brk (u.2.2.1,u.2.2.2.1,u.2.2.2.2.1,u.2.2.2.2.2.1,u.2.2.2.2.2.2.1,u.2.2.2.2.2.2.2.1,u.2.2.2.2.2.2.2.2.1,u.2.2.2.2.2.2.2.2.2.1,u.2.2.2.2.2.2.2.2.2.2.1,u.2.2.2.2.2.2.2.2.2.2.2.1,u.2.2.2.2.2.2.2.2.2.2.2.2.2.1,w):=by
 intro n
 induction n with
 |zero=>intro a c o h;cases h
 |
  succ n ih=>
  intro a c o h
  unfold kT at ih h
  rw[aP] at h
  generalize aH _ n=rec at ih h
  simp only at h
  split at h
  ·split at h
   ·exact ih _ _ _ h
   ·cases h
  ·cases h;exact⟨c,rfl⟩
theorem Ea{a0:fQ}{a1:bL}{a2:Ix}{a3:Int}{a4:Int}{a5:Bool}{a6:Ze}{a7:Unit}{a8:Zj}{a9:Zi}{a10:Zh}{r}
 (h:iF a0 a1 a2 a3 a4 a5 a6 a7 a8 a9 a10=some r):∃w,r=(a1,a2,a3,a4,a5,a6,a7,a8,a9,a10,w):=by
 unfold iF at h
 rcases xD h with⟨d,hd,h⟩|hd
 ·have key:∃k w,d=(a1,a2,a3,a4,a5,a6,a7,a8,a9,a10,k,w):=by
   obtain⟨v2,_,hd⟩:=bind_some hd
   split at hd
   ·split at hd
    ·split at hd
     ·obtain⟨w,e⟩:=sQ ((List.length ((((((nth bB a1.1.1.2.2.1 a0.1).2).2).2).2).1):Int),0,a1,a2,a3,a4,a5,a6,a7,a8,a9,a10,a0,a1.1,[]) _ 0 [] _ hd
      cases e;exact⟨_,_,rfl⟩
     ·cases hd
    ·cases hd
   ·cases hd;exact⟨_,_,rfl⟩
  obtain⟨k,w,rfl⟩:=key
  cases h;exact⟨_,rfl⟩
 ·obtain⟨v2,_,hd⟩:=bind_some hd
  split at hd
  ·split at hd
   ·split at hd
    ·obtain⟨w,e⟩:=sQ ((List.length ((((((nth bB a1.1.1.2.2.1 a0.1).2).2).2).2).1):Int),0,a1,a2,a3,a4,a5,a6,a7,a8,a9,a10,a0,a1.1,[]) _ 0 [] _ hd
     cases e
    ·cases hd
   ·cases hd
  ·cases hd
def gZ(a0:fQ)(a1:bL)(a2:Ix)(a3:Int)(a4:Int)(a5:Bool)(a6:Ze)(a7:Unit)(a8:Zj)(a9:Zi)(a10:Zh):Option (bL×Ix×Int×Int×Bool×(Ze)×Unit×(Zj)×(Zi)×uZ×(Zh)):=
 if(
  cp bE a0 a8)=true then kU a0 a1 a2 a3 a4 a5 a6 a7 a8 a9 a10 else if(bJ (.int .i64) .bool a0.1 (bT a6))=true then kU a0 a1 a2 a3 a4 a5 a6 a7 a8 a9 a10 else
  Option.bind (iF a0 a1 a2 a3 a4 a5 a6 a7 a8 a9 a10) fun⟨_,_,_,_,_,_,_,_,_,_,k⟩=>Option.bind (f33 k a0.1 a0.2.1 a0.2.2.1 a3 a4) fun⟨n,m,l⟩=>Option.bind (mV l) fun y4=>
   Option.bind (iA a10 y4 a1 a2 a3 a4 a5 a6 a7 a8 a9) fun⟨_,z,aa,ab,ac,ad,ae,af,y,ak,al⟩=>
    if List.length y+1≤aC then(some (z,aa,ab,ac,ad,ae,af,bz bE a0 (m,((0:Int),(([]:ZB),(n,())))) y,ak,(m,((0:Int),(([]:ZB),(n,())))),al)) else none
theorem Ki{a0:fQ}{a1:bL}{a2:Ix}{a3:Int}{a4:Int}{a5:Bool}{a6:Ze}{a7:Unit}{a8:Zj}{a9:Zi}{a10:Zh}{r}
 (h:gZ a0 a1 a2 a3 a4 a5 a6 a7 a8 a9 a10=some r):kU a0 a1 a2 a3 a4 a5 a6 a7 a8 a9 a10=some r:=by
 unfold gZ at h
 split at h
 ·exact h
 ·rename_i h1
  split at h
  ·exact h
  ·have e:kU a0 a1 a2 a3 a4 a5 a6 a7 a8 a9 a10=lQ (ia 18446744073709551615).1 (ia 18446744073709551615).2 a0 a1 a2 a3 a4 a5 a6 a7 a8 a9 a10:=rfl
   rw[e]
   unfold lQ
   rw[if_neg h1]
   rename_i h2
   rw[if_neg h2]
   cases hb:iF a0 a1 a2 a3 a4 a5 a6 a7 a8 a9 a10 with
   |none=>rw[hb] at h;cases h
   |
    some x=>
    obtain⟨w,rfl⟩:=Ea hb
    rw[hb] at h
    simp only[Option.bind_some,gJ] at h ⊢
    cases h10:f33 w a0.1 a0.2.1 a0.2.2.1 a3 a4 with
    |none=>rw[h10] at h;cases h
    |
     some x=>
     rw[h10] at h
     simp only[Option.bind_some] at h ⊢
     cases h4:mV x.2.2 with
     |none=>rw[h4] at h;cases h
     |
      some y4=>
      rw[h4] at h
      simp only[Option.bind_some] at h ⊢
      cases h3:iA a10 y4 a1 a2 a3 a4 a5 a6 a7 a8 a9 with
      |none=>rw[h3] at h;cases h
      |
       some z=>
       rw[h3] at h
       simp only[Option.bind_some,aG] at h ⊢
       exact h
def Eb:aT:=aD G [.cell 4 135] 47 [(pP 0),(.val bE)] [(0,(fB 1 2 3)),(1,(.map bE bU)),(2,(.map aZ .bool)),(3,(.row 74 40 aZ))] 115 zj [0,1,2,93] (.bx (G8 gZ))
theorem xh:hS Eb:=aT.sub Ie fun _ _ h=>Ki h
end Go.Proofs.YtgdcjlldafmomaaGreat
