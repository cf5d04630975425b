/- part -/
import Derived.Test.YtgdcjlldafmomaaGreatF7
import Derived.Test.YtgdcjlldafmomaaGreatA5
noncomputable section
namespace Go.Proofs.YtgdcjlldafmomaaGreat
open Go.Ax
abbrev Ix:=Zd
theorem vH(u:Int×Int×bO×Ix×Int×Int×Bool×(Zf)×Unit×(Zj)×(Zi)×(Zh)×ib×CN×(Zk)):
 ∀(n:Nat)(a:Int)(c:Zk) (o),kP n (u.1,a,u.2.2.1,u.2.2.2.1,u.2.2.2.2.1,u.2.2.2.2.2.1,u.2.2.2.2.2.2.1,u.2.2.2.2.2.2.2.1,u.2.2.2.2.2.2.2.2.1,u.2.2.2.2.2.2.2.2.2.1,u.2.2.2.2.2.2.2.2.2.2.1,u.2.2.2.2.2.2.2.2.2.2.2.1,u.2.2.2.2.2.2.2.2.2.2.2.2.1,u.2.2.2.2.2.2.2.2.2.2.2.2.2.1,c)=some o→
  ∃w,o= .brk (u.2.2.1,u.2.2.2.1,u.2.2.2.2.1,u.2.2.2.2.2.1,u.2.2.2.2.2.2.1,u.2.2.2.2.2.2.2.1,u.2.2.2.2.2.2.2.2.1,u.2.2.2.2.2.2.2.2.2.1,u.2.2.2.2.2.2.2.2.2.2.1,u.2.2.2.2.2.2.2.2.2.2.2.1,u.2.2.2.2.2.2.2.2.2.2.2.2.2.1,w):=by
 intro n
 induction n with
 |zero=>intro a c o h;cases h
 |
  succ n ih=>
  intro a c o h
  unfold kP at ih h
  rw[aM] at h
  generalize aK _ n=rec at ih h
  simp only at h
  split at h
  ·split at h
   ·exact ih _ _ _ h
   ·cases h
  ·cases h;exact⟨c,rfl⟩
theorem F5{a0:ib}{a1:bO}{a2:Ix}{a3:Int}{a4:Int}{a5:Bool}{a6:Zf}{a7:Unit}{a8:Zj}{a9:Zi}{a10:Zh}{r}
 (h:iA a0 a1 a2 a3 a4 a5 a6 a7 a8 a9 a10=some r):∃w,r=(a1,a2,a3,a4,a5,a6,a7,a8,a9,a10,w):=by
 unfold iA at h
 rcases zT h with⟨d,hd,h⟩|hd
 ·have key:∃k w,d=(a1,a2,a3,a4,a5,a6,a7,a8,a9,a10,k,w):=by
   obtain⟨v2,_,hd⟩:=bind_some hd
   split at hd
   ·split at hd
    ·split at hd
     ·obtain⟨w,e⟩:=vH ((List.length ((((((nth bJ a1.1.1.2.2.1 a0.1).2).2).2).2).1):Int),0,a1,a2,a3,a4,a5,a6,a7,a8,a9,a10,a0,a1.1,[]) _ 0 [] _ hd
      cases e;exact⟨_,_,rfl⟩
     ·cases hd
    ·cases hd
   ·cases hd;exact⟨_,_,rfl⟩
  obtain⟨k,w,rfl⟩:=key
  cases h;exact⟨_,rfl⟩
 ·obtain⟨v2,_,hd⟩:=bind_some hd
  split at hd
  ·split at hd
   ·split at hd
    ·obtain⟨w,e⟩:=vH ((List.length ((((((nth bJ a1.1.1.2.2.1 a0.1).2).2).2).2).1):Int),0,a1,a2,a3,a4,a5,a6,a7,a8,a9,a10,a0,a1.1,[]) _ 0 [] _ hd
     cases e
    ·cases hd
   ·cases hd
  ·cases hd
def jO(a0:ib)(a1:bO)(a2:Ix)(a3:Int)(a4:Int)(a5:Bool)(a6:Zf)(a7:Unit)(a8:Zj)(a9:Zi)(a10:Zh):Option (bO×Ix×Int×Int×Bool×(Zf)×Unit×(Zj)×(Zi)×qj×(Zh)):=
 if(
  cJ bu a0 a8)=true then kg a0 a1 a2 a3 a4 a5 a6 a7 a8 a9 a10 else if(bz (.int .i64) .bool a0.1 (bU a6))=true then kg a0 a1 a2 a3 a4 a5 a6 a7 a8 a9 a10 else
  Option.bind (iA a0 a1 a2 a3 a4 a5 a6 a7 a8 a9 a10) fun⟨_,_,_,_,_,_,_,_,_,_,k⟩=>Option.bind (f33 k a0.1 a0.2.1 a0.2.2.1 a3 a4) fun⟨n,m,l⟩=>Option.bind (pJ l) fun y4=>
   Option.bind (gW a10 y4 a1 a2 a3 a4 a5 a6 a7 a8 a9) fun⟨_,z,aa,ab,ac,ad,ae,af,y,ak,al⟩=>
    if List.length y+1≤aE then(some (z,aa,ab,ac,ad,ae,af,bE bu a0 (m,((0:Int),(([]:Zx),(n,())))) y,ak,(m,((0:Int),(([]:Zx),(n,())))),al)) else none
theorem Bs{a0:ib}{a1:bO}{a2:Ix}{a3:Int}{a4:Int}{a5:Bool}{a6:Zf}{a7:Unit}{a8:Zj}{a9:Zi}{a10:Zh}{r}
 (h:jO a0 a1 a2 a3 a4 a5 a6 a7 a8 a9 a10=some r):kg a0 a1 a2 a3 a4 a5 a6 a7 a8 a9 a10=some r:=by
 unfold jO at h
 split at h
 ·exact h
 ·rename_i h1
  split at h
  ·exact h
  ·have e:kg a0 a1 a2 a3 a4 a5 a6 a7 a8 a9 a10=gZ (fG 18446744073709551615).1 (fG 18446744073709551615).2 a0 a1 a2 a3 a4 a5 a6 a7 a8 a9 a10:=rfl
   rw[e]
   unfold gZ
   rw[aC h1]
   rename_i h2
   rw[aC h2]
   cases hb:iA a0 a1 a2 a3 a4 a5 a6 a7 a8 a9 a10 with
   |none=>rw[hb] at h;cases h
   |
    some x=>
    obtain⟨w,rfl⟩:=F5 hb
    rw[hb] at h
    simp only[aH,eI] at h ⊢
    cases h10:f33 w a0.1 a0.2.1 a0.2.2.1 a3 a4 with
    |none=>rw[h10] at h;cases h
    |
     some x=>
     rw[h10] at h
     simp only[aH] at h ⊢
     cases h4:pJ x.2.2 with
     |none=>rw[h4] at h;cases h
     |
      some y4=>
      rw[h4] at h
      simp only[aH] at h ⊢
      cases h3:gW a10 y4 a1 a2 a3 a4 a5 a6 a7 a8 a9 with
      |none=>rw[h3] at h;cases h
      |
       some z=>
       rw[h3] at h
       simp only[aH,aI] at h ⊢
       exact h
def F6:aW:=aF G [.cell 4 135] 47 [(pP 0),(.val bu)] [(0,(fB 1 2 3)),(1,(.map bu cp)),(2,(.map bx .bool)),(3,(.row 74 40 bx))] 115 Bn [0,1,2,93] (.bH (IW jO))
theorem zA:hS F6:=aW.sub JV fun _ _ h=>Bs h
end Go.Proofs.YtgdcjlldafmomaaGreat
